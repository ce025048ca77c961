
import PyProof.Rows.All
import OpenK.KLine
import KE.KEqDict
import KE.KDictOf
import KE.KDictList
import PyProof.Rows.SortWalk
import PyProof.Rows.SortShell
import KE.KRevIter
import Open.Head
import Wide.All
import Open.Line
import Wide.FinOn
import Lean
import PySem.Challenge.RW_uf020012_08
set_option compiler.extract_closed false
set_option bootstrap.genMatcherCode false
set_option genSizeOf false
set_option genSizeOfSpec false
section

open PySem PyProof.Rows
namespace Mine
theorem ff {P : Prop} (h : false = true) : P := absurd h Bool.false_ne_true
theorem ff2 {P : Prop} (h : true = false) : P := absurd h.symm Bool.false_ne_true
theorem nn {P : Prop} {α : Type} {a : α} (h : none = some a) : P := by cases h
theorem i1 {a b c : Int} (h : b ≤ c) (k : decide (a ≤ b) = true) : a ≤ c := Int.le_trans (of_decide_eq_true k) h
theorem i2 {a b c : Int} (h : b ≤ c) (k : decide (a < b) = true) : a < c := Int.lt_of_lt_of_le (of_decide_eq_true k) h
theorem i3 {a b c : Int} (h : b < c) (k : decide (a ≤ b) = true) : a < c := Int.lt_of_le_of_lt (of_decide_eq_true k) h
theorem i4 {a b c : Int} (h : b < c) (k : decide (a ≤ b + 1) = true) : a ≤ c := Int.le_trans (of_decide_eq_true k) h
theorem i5 {a b c : Int} (h : c ≤ b) (k : decide (b ≤ a) = true) : c ≤ a := Int.le_trans h (of_decide_eq_true k)
theorem i6 {a b c : Int} (h : c ≤ b) (k : decide (b < a) = true) : c < a := Int.lt_of_le_of_lt h (of_decide_eq_true k)
theorem i7 {a b c : Int} (h : c < b) (k : decide (b ≤ a) = true) : c < a := Int.lt_of_lt_of_le h (of_decide_eq_true k)
theorem i8 {b c : Int} (h : b ≤ c) (k : decide (0 < b) = true) : c ≠ 0 := fun e => absurd (Int.lt_of_lt_of_le (of_decide_eq_true k) h) (e ▸ Int.lt_irrefl 0)
theorem n1 {a b c : Nat} (h : b ≤ c) (k : decide (a ≤ b) = true) : a ≤ c := Nat.le_trans (of_decide_eq_true k) h
theorem n2 {a b c : Nat} (h : b ≤ c) (k : decide (a < b) = true) : a < c := Nat.lt_of_lt_of_le (of_decide_eq_true k) h
theorem n5 {a b c : Nat} (h : c ≤ b) (k : decide (b ≤ a) = true) : c ≤ a := Nat.le_trans h (of_decide_eq_true k)
theorem n6 {a b c : Nat} (h : c ≤ b) (k : decide (b < a) = true) : c < a := Nat.lt_of_le_of_lt h (of_decide_eq_true k)
/-- plain data; `ref`: a mutable object of the call's own, held by the view -/
inductive V where
  | none
  | bool (b : Bool)
  | int (i : Int)
  | str (s : Str)
  | tup (xs : List V)
  | lst (xs : List V)
  | dct (es : List (Int × V))
  | ref (a : Addr)

/-- what the view says of an object; `ro`: for now it is only read -/
inductive Cell where
  | list (ro : Bool) (xs : List V)
  | dict (ro : Bool) (es : List (Int × V))
noncomputable def Cell.ro : Cell → Bool
  | .list r _ => r
  | .dict r _ => r
noncomputable def Cell.lock : Cell → Cell
  | .list _ xs => .list true xs
  | .dict _ es => .dict true es

noncomputable abbrev View := Addr → Option Cell
noncomputable abbrev Ls := Nat → Option V
noncomputable def View.upd (σ : View) (a : Addr) (c : Cell) : View := fun b => if b = a then some c else σ b
noncomputable def View.del (σ : View) (a : Addr) : View := fun b => if b = a then none else σ b
noncomputable def Ls.set (ls : Ls) (i : Nat) (v : V) : Ls := fun j => if j = i then some v else ls j

@[simp] theorem upd_self (σ : View) (a : Addr) (c : Cell) : σ.upd a c a = some c := by simp [View.upd]
theorem upd_ne {σ : View} {a b : Addr} {c : Cell} (h : b ≠ a) : σ.upd a c b = σ b := by simp [View.upd, h]
@[simp] theorem upd_upd (σ : View) (a : Addr) (c d : Cell) : (σ.upd a c).upd a d = σ.upd a d := by funext b; simp only [View.upd]; split <;> rfl
theorem del_upd {σ : View} {a : Addr} {c : Cell} (h : σ a = none) : (σ.upd a c).del a = σ := by
  funext b; simp only [View.upd, View.del]; split
  · rename_i e; simp only [e, h]
  · rfl
@[simp] theorem del_self (σ : View) (a : Addr) : σ.del a a = none := by simp [View.del]
theorem del_ne {σ : View} {a b : Addr} (h : b ≠ a) : σ.del a b = σ b := by simp [View.del, h]
noncomputable def listObj (vs : Array Value) (n : Nat) : Obj := { cls := .type "list", data := .seq vs n }
noncomputable def tupObj (vs : Array Value) (n : Nat) : Obj := { cls := .type "tuple", data := .seq vs n }
noncomputable def dictObj (es : Array DictEntry) (n : Nat) : Obj := { cls := .type "dict", data := .dict es n }

mutual
inductive Real (h : Heap) (D : Addr → Prop) : Value → V → Prop
  | none : Real h D .none .none
  | bool (b : Bool) : Real h D (.bool b) (.bool b)
  | int (i : Int) (t : Tok) : Real h D (.int i t) (.int i)
  | str (x : Str) (t : Tok) : PyData.strOk x = true → x.cps.size ≤ 2 ^ 24 → Real h D (.str x t) (.str x)
  | tup {a : Addr} {vs : Array Value} {n : Nat} {xs : List V} : h.get? a = some (tupObj vs n) → vs.size ≤ 2 ^ 24 → ¬ D a → Reals h D vs.toList xs → Real h D (.ref a) (.tup xs)
  | lst {a : Addr} {vs : Array Value} {n : Nat} {xs : List V} : h.get? a = some (listObj vs n) → vs.size ≤ 2 ^ 24 → ¬ D a → Reals h D vs.toList xs → Real h D (.ref a) (.lst xs)
  | dct {a : Addr} {es : Array DictEntry} {n : Nat} {xs : List (Int × V)} : h.get? a = some (dictObj es n) → es.size ≤ 2 ^ 24 → (xs.map (·.1)).Nodup → 2 < a → ¬ D a → RealD h D es.toList xs → Real h D (.ref a) (.dct xs)
  | ref (a : Addr) : Real h D (.ref a) (.ref a)
inductive Reals (h : Heap) (D : Addr → Prop) : List Value → List V → Prop
  | nil : Reals h D [] []
  | cons {v : Value} {vs : List Value} {x : V} {xs : List V} : Real h D v x → Reals h D vs xs → Reals h D (v :: vs) (x :: xs)
inductive RealD (h : Heap) (D : Addr → Prop) : List DictEntry → List (Int × V) → Prop
  | nil : RealD h D [] []
  | cons {e : DictEntry} {es : List DictEntry} {k : Int} {t : Tok} {x : V} {xs : List (Int × V)} : e.key = .int k t → e.hash = hashInt k → Real h D e.val x → RealD h D es xs → RealD h D (e :: es) ((k, x) :: xs)
end

inductive TupI (h : Heap) (D : Addr → Prop) (v : Value) (xs : List V) : Prop
  | mk (a : Addr) (vs : Array Value) (n : Nat) : v = .ref a → h.get? a = some (tupObj vs n) → vs.size ≤ 2 ^ 24 → ¬ D a → Reals h D vs.toList xs → TupI h D v xs
inductive LstJ (h : Heap) (D : Addr → Prop) (v : Value) (xs : List V) : Prop
  | mk (a : Addr) (vs : Array Value) (n : Nat) : v = .ref a → h.get? a = some (listObj vs n) → vs.size ≤ 2 ^ 24 → ¬ D a → Reals h D vs.toList xs → LstJ h D v xs
inductive DctJ (h : Heap) (D : Addr → Prop) (v : Value) (xs : List (Int × V)) : Prop
  | mk (a : Addr) (es : Array DictEntry) (n : Nat) : v = .ref a → h.get? a = some (dictObj es n) → es.size ≤ 2 ^ 24 → (xs.map (·.1)).Nodup → 2 < a → ¬ D a → RealD h D es.toList xs → DctJ h D v xs
noncomputable def RInv (h : Heap) (D : Addr → Prop) (v : Value) : V → Prop
  | .none => v = .none
  | .bool b => v = .bool b
  | .int i => ∃ t, v = .int i t
  | .str x => ∃ t, v = .str x t ∧ PyData.strOk x = true ∧ x.cps.size ≤ 2 ^ 24
  | .tup xs => TupI h D v xs
  | .lst xs => LstJ h D v xs
  | .dct xs => DctJ h D v xs
  | .ref a => v = .ref a
theorem Real.inv {h : Heap} {D : Addr → Prop} {v : Value} {x : V} (r : Real h D v x) : RInv h D v x := by
  cases r with
  | none => exact rfl
  | bool b => exact rfl
  | int i t => exact ⟨t, rfl⟩
  | str x t k z => exact ⟨t, rfl, k, z⟩
  | tup a b c d => exact ⟨_, _, _, rfl, a, b, c, d⟩
  | lst a b c d => exact ⟨_, _, _, rfl, a, b, c, d⟩
  | dct a b c d e f => exact ⟨_, _, _, rfl, a, b, c, d, e, f⟩
  | ref a => exact rfl
theorem Real.none_i {h : Heap} {D : Addr → Prop} {v : Value} (r : Real h D v .none) : v = .none := r.inv
theorem Real.bool_i {h : Heap} {D : Addr → Prop} {v : Value} {b : Bool} (r : Real h D v (.bool b)) : v = .bool b := r.inv
theorem Real.int_i {h : Heap} {D : Addr → Prop} {v : Value} {i : Int} (r : Real h D v (.int i)) : ∃ t, v = .int i t := r.inv
theorem Real.str_i {h : Heap} {D : Addr → Prop} {v : Value} {x : Str} (r : Real h D v (.str x)) : ∃ t, v = .str x t ∧ PyData.strOk x = true ∧ x.cps.size ≤ 2 ^ 24 := r.inv
theorem Real.tup_i {h : Heap} {D : Addr → Prop} {v : Value} {xs : List V} (r : Real h D v (.tup xs)) : TupI h D v xs := r.inv
theorem Real.lst_i {h : Heap} {D : Addr → Prop} {v : Value} {xs : List V} (r : Real h D v (.lst xs)) : LstJ h D v xs := r.inv
theorem Real.dct_i {h : Heap} {D : Addr → Prop} {v : Value} {xs : List (Int × V)} (r : Real h D v (.dct xs)) : DctJ h D v xs := r.inv
theorem Real.ref_i {h : Heap} {D : Addr → Prop} {v : Value} {a : Addr} (r : Real h D v (.ref a)) : v = .ref a := r.inv

/-- what a change of heap must leave, that what is read stays read -/
noncomputable def Leaves (h : Heap) (D : Addr → Prop) (h' : Heap) (D' : Addr → Prop) : Prop := ∀ b o, h.get? b = some o → ¬ D b → h'.get? b = some o ∧ ¬ D' b

theorem Real.leaves {h h' : Heap} {D D' : Addr → Prop} (L : Leaves h D h' D') {v : Value} {x : V} (r : Real h D v x) : Real h' D' v x := by
  refine Real.rec (motive_1 := fun v x _ => Real h' D' v x) (motive_2 := fun vs xs _ => Reals h' D' vs xs) (motive_3 := fun es xs _ => RealD h' D' es xs)
    .none .bool .int .str (fun ho hz hs _ r => .tup (L _ _ ho hs).1 hz (L _ _ ho hs).2 r) (fun ho hz hs _ r => .lst (L _ _ ho hs).1 hz (L _ _ ho hs).2 r) (fun ho hz hn h2 hs _ r => .dct (L _ _ ho hs).1 hz hn h2 (L _ _ ho hs).2 r) .ref
    .nil (fun _ _ a b => .cons a b) .nil (fun a b _ _ c d => .cons a b c d) r
theorem Reals.leaves {h h' : Heap} {D D' : Addr → Prop} (L : Leaves h D h' D') {vs : List Value} {xs : List V} (r : Reals h D vs xs) : Reals h' D' vs xs := by
  refine Reals.rec (motive_1 := fun v x _ => Real h' D' v x) (motive_2 := fun vs xs _ => Reals h' D' vs xs) (motive_3 := fun es xs _ => RealD h' D' es xs)
    .none .bool .int .str (fun ho hz hs _ r => .tup (L _ _ ho hs).1 hz (L _ _ ho hs).2 r) (fun ho hz hs _ r => .lst (L _ _ ho hs).1 hz (L _ _ ho hs).2 r) (fun ho hz hn h2 hs _ r => .dct (L _ _ ho hs).1 hz hn h2 (L _ _ ho hs).2 r) .ref
    .nil (fun _ _ a b => .cons a b) .nil (fun a b _ _ c d => .cons a b c d) r
theorem RealD.leaves {h h' : Heap} {D D' : Addr → Prop} (L : Leaves h D h' D') {es : List DictEntry} {xs : List (Int × V)} (r : RealD h D es xs) : RealD h' D' es xs := by
  refine RealD.rec (motive_1 := fun v x _ => Real h' D' v x) (motive_2 := fun vs xs _ => Reals h' D' vs xs) (motive_3 := fun es xs _ => RealD h' D' es xs)
    .none .bool .int .str (fun ho hz hs _ r => .tup (L _ _ ho hs).1 hz (L _ _ ho hs).2 r) (fun ho hz hs _ r => .lst (L _ _ ho hs).1 hz (L _ _ ho hs).2 r) (fun ho hz hn h2 hs _ r => .dct (L _ _ ho hs).1 hz hn h2 (L _ _ ho hs).2 r) .ref
    .nil (fun _ _ a b => .cons a b) .nil (fun a b _ _ c d => .cons a b c d) r

inductive ConsI (h : Heap) (D : Addr → Prop) (x : V) (xs : List V) (vs : List Value) : Prop
  | mk (v : Value) (ws : List Value) : vs = v :: ws → Real h D v x → Reals h D ws xs → ConsI h D x xs vs
inductive DConsI (h : Heap) (D : Addr → Prop) (e : DictEntry) (es : List DictEntry) (xs : List (Int × V)) : Prop
  | mk (k : Int) (t : Tok) (x : V) (ys : List (Int × V)) : xs = (k, x) :: ys → e.key = .int k t → e.hash = hashInt k → Real h D e.val x → RealD h D es ys → DConsI h D e es xs
theorem RealD.nil_i {h : Heap} {D : Addr → Prop} {xs : List (Int × V)} (r : RealD h D [] xs) : xs = [] := by cases r; rfl
theorem RealD.cons_i {h : Heap} {D : Addr → Prop} {e : DictEntry} {es : List DictEntry} {xs : List (Int × V)} (r : RealD h D (e :: es) xs) : DConsI h D e es xs := by
  cases r with | cons a b c d => exact ⟨_, _, _, _, rfl, a, b, c, d⟩
theorem Reals.nil_i {h : Heap} {D : Addr → Prop} {vs : List Value} (r : Reals h D vs []) : vs = [] := by cases r; rfl
theorem Reals.cons_i {h : Heap} {D : Addr → Prop} {x : V} {xs : List V} {vs : List Value} (r : Reals h D vs (x :: xs)) : ConsI h D x xs vs := by
  cases r with | cons a b => exact ⟨_, _, rfl, a, b⟩

inductive ListAt (h : Heap) (D : Addr → Prop) (a : Addr) (xs : List V) : Prop
  | mk (vs : Array Value) (n : Nat) : h.get? a = some (listObj vs n) → vs.size ≤ 2 ^ 24 → Reals h D vs.toList xs → ListAt h D a xs
inductive DictAt (h : Heap) (D : Addr → Prop) (a : Addr) (es : List (Int × V)) : Prop
  | mk (ds : Array DictEntry) (n : Nat) : h.get? a = some (dictObj ds n) → ds.size ≤ 2 ^ 24 → (es.map (·.1)).Nodup → RealD h D ds.toList es → DictAt h D a es
noncomputable def CellAt (h : Heap) (D : Addr → Prop) (a : Addr) : Cell → Prop
  | .list _ xs => ListAt h D a xs
  | .dict _ es => DictAt h D a es

/-- the view may change it -/
noncomputable def Rw (σ : View) (b : Addr) : Prop := ∃ c, σ b = some c ∧ c.ro = false
theorem Rw.of_none {σ : View} {b : Addr} (h : σ b = none) : ¬ Rw σ b := by rintro ⟨c, e, _⟩; exact nn (Eq.trans (Eq.symm h) e)
theorem Rw.of_ro {σ : View} {b : Addr} {c : Cell} (h : σ b = some c) (hr : c.ro = true) : ¬ Rw σ b := by rintro ⟨c', e, h'⟩; cases Eq.trans (Eq.symm h) e; exact ff (Eq.trans (Eq.symm h') hr)

/-- objects that are not the view's to change (nor of `own`) stay; the view grows by new objects alone -/
structure Step (own : Addr → Prop) (h : Heap) (σ : View) (h' : Heap) (σ' : View) : Prop where
  keep : ∀ b o, h.get? b = some o → ¬ Rw σ b → ¬ own b → h'.get? b = some o
  size : h.objs.size ≤ h'.objs.size
  grow : ∀ a, σ' a ≠ none → σ a = none → h.objs.size ≤ a
  ro : ∀ a c, a < h.objs.size → σ a = some c → c.ro = true → σ' a = some c ∨ σ' a = none

theorem Step.refl (own : Addr → Prop) (h : Heap) (σ : View) : Step own h σ h σ := ⟨fun _ _ e _ _ => e, Nat.le_refl _, fun _ h1 h2 => absurd h2 h1, fun _ _ _ e _ => .inl e⟩
theorem not_some {α : Type} {x : Option α} {c : α} (q : x = some c) : x ≠ none := (q ▸ (fun h => (nn (Eq.symm h))))
theorem Step.none {own : Addr → Prop} {h h' : Heap} {σ σ' : View} (x : Step own h σ h' σ') {b : Addr} (e : b < h.objs.size) (hs : σ b = none) : σ' b = none := by
  cases q : σ' b with
  | none => rfl
  | some c => exact absurd e (Nat.not_lt.mpr (x.grow b (not_some q) hs))
theorem Step.notRw {own : Addr → Prop} {h h' : Heap} {σ σ' : View} (x : Step own h σ h' σ') {b : Addr} (e : b < h.objs.size) (hs : ¬ Rw σ b) : ¬ Rw σ' b := by
  cases q : σ b with
  | none => exact Rw.of_none (x.none e q)
  | some c =>
    cases hr : c.ro with
    | false => exact absurd ⟨c, q, hr⟩ hs
    | true =>
      rcases x.ro b c e q hr with h | h
      · exact Rw.of_ro h hr
      · exact Rw.of_none h
theorem Step.trans {own : Addr → Prop} {h₁ h₂ h₃ : Heap} {σ₁ σ₂ σ₃ : View} (x : Step own h₁ σ₁ h₂ σ₂) (y : Step own h₂ σ₂ h₃ σ₃) : Step own h₁ σ₁ h₃ σ₃ := by
  refine ⟨fun b o e hs ho => y.keep b o (x.keep b o e hs ho) (x.notRw (Heap.lt_size e) hs) ho, Nat.le_trans x.size y.size, fun a h3 h1 => ?_, fun a c ha e hr => ?_⟩
  · cases q : σ₂ a with
    | some c => exact x.grow a (not_some q) h1
    | none => exact Nat.le_trans x.size (y.grow a h3 q)
  · rcases x.ro a c ha e hr with h | h
    · exact y.ro a c (Nat.lt_of_lt_of_le ha x.size) h hr
    · exact .inr (y.none (Nat.lt_of_lt_of_le ha x.size) h)

structure Wd where
  prog : Program
  w : World
  q : Program
  loose : List Str
  mean : ExcName → Option Value
  s₀ : Shared
  mg : Str → Option Value
  mb : Str → Option Value

structure Wd.Ok (W : Wd) : Prop where
  top : Top W.q W.loose W.mean W.mg W.mb W.s₀.heap

structure Cx where
  W : Wd
  A : Around
  env : Env
  vars : List Str
  own : Addr → Prop
  B : Addr → Prop

noncomputable def Cx.D (C : Cx) (σ : View) : Addr → Prop := fun a => σ a ≠ none ∨ C.own a ∨ C.B a

noncomputable def HasVal (h : Heap) (env : Env) (x : Str) (v : Value) : Prop :=
  (env.kindOf x = some .local ∧ ∃ m, h.Ns env.locals m ∧ m x = some v) ∨
  ((env.kindOf x = some .cell ∨ env.kindOf x = some .free) ∧ ∃ c, env.cells.lookup x = some c ∧ h.IsCell c (some v))

/-- the parts that hold of any frame of the call -/
structure Ground (C : Cx) (σ : View) (s : Shared) : Prop where
  stays : C.W.s₀.heap.StaysIn s.heap
  same : s.gens = C.W.s₀.gens ∧ s.drawn = C.W.s₀.drawn ∧ s.os = C.W.s₀.os
  fresh : ∀ a, C.D σ a → C.W.s₀.heap.objs.size ≤ a
  larger : C.W.s₀.heap.objs.size ≤ s.heap.objs.size
  sim : ∀ a c, σ a = some c → CellAt s.heap (C.D σ) a c
  apart : ∀ a, C.own a ∨ C.B a → σ a = none
  apart2 : ∀ a, C.own a → ¬ C.B a
  old : ∀ a, C.own a ∨ C.B a → ∃ o, s.heap.get? a = some o

structure FrOK (C : Cx) (σ : View) (ls : Ls) (h : Heap) : Prop where
  kind : C.env.scope.kind = .function
  glob : C.env.globals = mainGlobals
  blt : C.env.builtins = builtinsNs
  ns : ∃ m, h.Ns C.env.locals m
  ownL : C.own C.env.locals
  cells : ∀ x c, C.env.cells.lookup x = some c → (C.own c ∨ C.B c) ∧ c ≠ C.env.locals ∧ ∃ v, h.IsCell c v
  inj : ∀ x y c, C.env.cells.lookup x = some c → C.env.cells.lookup y = some c → x = y
  val : ∀ i x d, C.vars[i]? = some x → (C.env.kindOf x = some .local ∨ C.env.kindOf x = some .cell ∨ C.env.kindOf x = some .free) → ls i = some d → ∃ v, HasVal h C.env x v ∧ Real h (C.D σ) v d
  nodup : C.vars.Nodup
  has : ∀ x, (C.env.kindOf x = some .cell ∨ C.env.kindOf x = some .free) → ∃ c, C.env.cells.lookup x = some c

structure Good (C : Cx) (σ : View) (ls : Ls) (s : Shared) : Prop extends Ground C σ s where
  fr : FrOK C σ ls s.heap

theorem Ground.there {C : Cx} {σ : View} {s : Shared} (G : Ground C σ s) {a : Addr} (h : C.D σ a) : ∃ o, s.heap.get? a = some o := by
  rcases h with h | h
  · cases q : σ a with
    | none => exact absurd q h
    | some c =>
      have := G.sim a c q
      cases c with
      | list _ xs => obtain ⟨_, _, e, _⟩ := this; exact ⟨_, e⟩
      | dict _ es => obtain ⟨_, _, e, _⟩ := this; exact ⟨_, e⟩
  · exact G.old a h
theorem Ground.lt {C : Cx} {σ : View} {s : Shared} (G : Ground C σ s) {a : Addr} (h : C.D σ a) : a < s.heap.objs.size := let ⟨_, e⟩ := G.there h; Heap.lt_size e

theorem Ground.leaves {C : Cx} {σ σ' : View} {s : Shared} {h' : Heap} (_G : Ground C σ s) (S : Step C.own s.heap σ h' σ') : Leaves s.heap (C.D σ) h' (C.D σ') := fun b o e hd => by
  have h1 : σ b = none := by
    cases q : σ b with
    | none => rfl
    | some c => exact absurd (.inl (not_some q)) hd
  have h2 : ¬ C.own b := fun h => hd (.inr (.inl h))
  refine ⟨S.keep b o e (Rw.of_none h1) h2, ?_⟩
  rintro (h | h)
  · exact h (S.none (Heap.lt_size e) h1)
  · exact hd (.inr h)

theorem Ground.toks {C : Cx} {σ : View} {s : Shared} (G : Ground C σ s) (t : Nat) : Ground C σ { s with toks := t } := ⟨G.stays, G.same, G.fresh, G.larger, G.sim, G.apart, G.apart2, G.old⟩
theorem Good.toks {C : Cx} {σ : View} {ls : Ls} {s : Shared} (G : Good C σ ls s) (t : Nat) : Good C σ ls { s with toks := t } := ⟨G.toGround.toks t, G.fr⟩

/-! the heap never shrinks -/
theorem Runs.size_le {M : Model} {Γ : Ctx} {p : Pos} {t : Sem Fin} {fs : List Frame} {s s' : Shared} {e : End} (h : Runs M Γ p t fs s e s') : s.heap.objs.size ≤ s'.heap.objs.size := by
  induction h <;> (try simp only [Shared.setGen, Heap.size_push, Heap.size_after_update] at *) <;> (first | assumption | exact Nat.le_refl _ | solve_by_elim (maxDepth := 3) [Nat.le_of_lt, Nat.le_trans, Nat.lt_of_lt_of_le, Nat.lt_of_le_of_lt, n1, n2, n5, n6] | lia)
theorem Wakes.size_le {M : Model} {Γ : Ctx} {p : Pos} {g : Nat} {r : Resume} {s s' : Shared} {res : GenResult} (h : Wakes M Γ p g r s res s') : s.heap.objs.size ≤ s'.heap.objs.size := by
  unfold Wakes at h
  split at h
  · exact h.elim
  · split at h
    · obtain ⟨e₁, s₁, hr, _, _, rfl⟩ := h; exact (Runs.size_le hr : (s.setGen g .running).heap.objs.size ≤ s₁.heap.objs.size)
    · exact h.2 ▸ (Nat.le_refl _)
    · rw [h.2]; exact Nat.le_refl _
  · obtain ⟨e₁, s₁, hr, _, _, rfl⟩ := h; exact (Runs.size_le hr : (s.setGen g .running).heap.objs.size ≤ s₁.heap.objs.size)
  · rw [h.2]; exact Nat.le_refl _
  · rw [h.2]; exact Nat.le_refl _
theorem wp_size {α : Type} (M : Model) (Γ : Ctx) (n : Nat) (t : Sem α) : ∀ (Q : α → Pos → Shared → Prop) (E : Value → Pos → Shared → Prop) (p : Pos) (s : Shared), n ≤ s.heap.objs.size → Sem.wp M Γ t Q E p s →
    Sem.wp M Γ t (fun a p' s' => n ≤ s'.heap.objs.size ∧ Q a p' s') (fun e p' s' => n ≤ s'.heap.objs.size ∧ E e p' s') p s := by
  induction t with
  | pure a => intro Q E p s hn h; exact ⟨hn, h⟩
  | raise e => intro Q E p s hn h; exact ⟨hn, h⟩
  | unsupported _ => intro Q E p s _ h; exact h
  | finish _ => intro Q E p s _ h; exact h
  | rule _ k ih => intro Q E p s hn h; exact ih () Q E p s hn h
  | «at» p' k ih => intro Q E p s hn h; exact ih () Q E p' s hn h
  | load a _ k ih => intro Q E p s hn h; refine Exists.elim h ?_; rintro o hq3; exact ⟨o, hq3.1, ih o Q E p s hn hq3.2⟩
  | update a _ f k ih => intro Q E p s hn h; exact ⟨h.1, ih () Q E p _ (by rw [Heap.size_after_update]; exact hn) h.2⟩
  | loadIfAlive a k ih => intro Q E p s hn h; exact ih _ Q E p s hn h
  | point _ k ih => intro Q E p s hn h; exact ih () Q E p s hn h
  | register _ _ => intro Q E p s _ h; exact h
  | alloc o k ih => intro Q E p s hn h; exact ih _ Q E p _ (by rw [Heap.size_push]; solve_by_elim (maxDepth := 3) [Nat.le_of_lt, Nat.le_trans, Nat.lt_of_lt_of_le, Nat.lt_of_le_of_lt, n1, n2, n5, n6]) h
  | fresh k ih => intro Q E p s hn h; exact ih _ Q E p _ hn h
  | ask k ih => intro Q E p s hn h; exact ih _ Q E p s hn h
  | choose src m k ih => intro Q E p s hn h; exact ⟨h.1, ih _ Q E p _ hn h.2⟩
  | os q _ k ih => intro Q E p s hn h; exact ih _ Q E p _ hn h
  | call c hd _ _ k ih => intro Q E p s hn h; refine Exists.elim h fun r hx => ?_; obtain ⟨s', hq2⟩ := hx; exact ⟨r, s', hq2.1, ih r Q E p s' (Nat.le_trans hn (Runs.size_le hq2.1)) hq2.2⟩
  | handled own k ih => intro Q E p s hn h; exact ih _ Q E p s hn h
  | genState g k ih => intro Q E p s hn h; refine Exists.elim h ?_; rintro st hq1; exact ⟨st, hq1.1, ih _ Q E p s hn hq1.2⟩
  | newGen c k ih => intro Q E p s hn h; exact ih _ Q E p _ hn h
  | resume g r _ k ih => intro Q E p s hn h; refine Exists.elim h fun res hx => ?_; obtain ⟨s', hq0⟩ := hx; exact ⟨res, s', hq0.1, ih res Q E p s' (Nat.le_trans hn (Wakes.size_le hq0.1)) hq0.2⟩
  | yield _ _ _ _ => intro Q E p s _ h; exact h
  | stack k ih => intro Q E p s hn h; exact ih _ Q E p s hn h
  | fork _ _ => intro Q E p s _ h; exact h
  | thread k ih => intro Q E p s hn h; exact ih _ Q E p s hn h
  | await _ _ _ _ _ => intro Q E p s _ h; exact h
theorem wpAny_size {α : Type} {M : Model} {A : Around} {s : Shared} {t : Sem α} {Q : α → Shared → Prop} {E : Value → Shared → Prop} (h : wpAny M A t Q E s) :
    wpAny M A t (fun a s' => s.heap.objs.size ≤ s'.heap.objs.size ∧ Q a s') (fun e s' => s.heap.objs.size ≤ s'.heap.objs.size ∧ E e s') s :=
  fun Γ p hΓ => wp_size M Γ _ t _ _ p s (Nat.le_refl _) (h Γ p hΓ)
end Mine
end

section

open PySem PyProof.Rows
namespace Mine

/-! the mini syntax -/
inductive Op where
  | add | sub | mul | div | mod | pow | neg
  | eq | ne | lt | le | gt | ge | isIn | notIn | is | isNot
  | len | isinst (t : String) | list | tuple | dict | dictF | max2 | sorted | int
  | append | extend | popL | popD2 | get | join
  | item | slice (lo hi : Bool)
  | mkTup | mkList | mkListM
  deriving DecidableEq

/-- a target: one name, or two -/
inductive Tg where
  | one (i : Nat)
  | two (i j : Nat)
noncomputable def fstV : V → V
  | .tup [p, _] => p
  | _ => .none
noncomputable def sndV : V → V
  | .tup [_, q] => q
  | _ => .none
noncomputable def Tg.up (t : Tg) (v : V) (ls : Ls) : Ls := match t with
  | .one i => ls.set i v
  | .two i j => (ls.set i (fstV v)).set j (sndV v)

mutual
inductive ME where
  | var (i : Nat)
  | lit (d : V)
  | gcon (k : Nat)
  | op (o : Op) (args : MEs)
  | meth (o : Op) (obj : ME) (args : MEs)
  | dict (m : Bool) (ks : List Int) (vs : MEs)
  | and (es : MEs)
  | or (es : MEs)
  | not (e : ME)
  | cmp2 (o1 o2 : Op) (a b c : ME)
  | call (f : Nat) (args : MEs)
  | comp (m : Bool) (elt : ME) (x : Tg) (it : MI) (ifs : MEs)
  | frz (e : ME)
inductive MEs where
  | nil
  | cons (e : ME) (es : MEs)
inductive MI where
  | seq (e : ME)
  | range (es : MEs)
  | enum (es : MEs)
  | rev (es : MEs)
end

mutual
inductive MS where
  | assign (i : Nat) (e : ME)
  | setSub (o k e : ME)
  | expr (e : ME)
  | ite (t : ME) (a b : MSs)
  | loop (t : ME) (b : MSs)
  | for1 (i : Tg) (it : MI) (b : MSs)
  | ret (e : ME)
  | freeze (i : Nat)
inductive MSs where
  | nil
  | cons (s : MS) (r : MSs)
end

/-! reading data -/
noncomputable def lstOf (σ : View) : V → Option (List V)
  | .lst xs => some xs
  | .ref a => match σ a with | some (.list _ xs) => some xs | _ => none
  | _ => none
noncomputable def seqOf (σ : View) : V → Option (List V)
  | .tup xs => some xs
  | v => lstOf σ v
noncomputable def dicOf (σ : View) : V → Option (List (Int × V))
  | .dct es => some es
  | .ref a => match σ a with | some (.dict _ es) => some es | _ => none
  | _ => none
noncomputable def charsOf (s : Str) : List V := s.cps.toList.map fun c => V.str ⟨#[c]⟩
noncomputable def itemsOf (σ : View) : V → Option (List V)
  | .str s => some (charsOf s)
  | v => match seqOf σ v with
    | some xs => some xs
    | none => (dicOf σ v).map fun es => es.map fun p => V.int p.1
noncomputable def listItems (σ : View) : V → Option (List V)
  | .str _ => none
  | v => itemsOf σ v
noncomputable def lenOf (σ : View) (v : V) : Option Nat := (itemsOf σ v).map List.length

noncomputable def lookD {α : Type} (k : Int) : List (Int × α) → Option α
  | [] => none
  | (j, v) :: r => if j = k then some v else lookD k r
noncomputable def putD {α : Type} (k : Int) (v : α) : List (Int × α) → List (Int × α)
  | [] => [(k, v)]
  | (j, w) :: r => if j = k then (j, v) :: r else (j, w) :: putD k v r
noncomputable def dropD {α : Type} (k : Int) : List (Int × α) → List (Int × α)
  | [] => []
  | (j, w) :: r => if j = k then r else (j, w) :: dropD k r

noncomputable def leafD : V → Option PyData
  | .none => some .none
  | .bool b => some (.bool b)
  | .int i => some (.int i)
  | .str s => some (.str s)
  | _ => none
noncomputable def nodeD (σ : View) (f : V → Option PyData) : V → Option PyData
  | .tup xs => (xs.mapM f).map .tuple
  | .lst xs => (xs.mapM f).map .list
  | .ref a => (lstOf σ (.ref a)).bind fun xs => (xs.mapM f).map .list
  | x => leafD x
/-- as data, through the view's lists; at most n deep -/
noncomputable def V.toD (σ : View) : Nat → V → Option PyData
  | 0 => leafD
  | n + 1 => nodeD σ (V.toD σ n)

noncomputable def truthV : V → Option Bool
  | .none => some false
  | .bool b => some b
  | _ => none

noncomputable def tyB (t k : String) : Bool := t == k || (t == "int" && k == "bool")
noncomputable def cellK : Option Cell → Option String
  | none => none
  | some c => match c with
    | .list _ _ => some "list"
    | .dict _ _ => some "dict"
noncomputable def kindV (σ : View) : V → Option String
  | .none => some "NoneType"
  | .bool _ => some "bool"
  | .int _ => some "int"
  | .str _ => some "str"
  | .tup _ => some "tuple"
  | .lst _ => some "list"
  | .dct _ => some "dict"
  | .ref a => cellK (σ a)
noncomputable def isTypeV (σ : View) (t : String) (x : V) : Option Bool := (kindV σ x).map (tyB t)

noncomputable abbrev Post := V → View → Prop

noncomputable def sglOf : V → Option (Option Bool)
  | .none => some none
  | .bool b => some (some b)
  | _ => none
noncomputable def sglIs (x : V) (y : Option Bool) : Option Bool := match x with
  | .none => some (y == none)
  | .bool a => some (y == some a)
  | _ => some false
noncomputable def sameSingle (x y : V) : Option Bool := (sglOf y).bind (sglIs x)

noncomputable def eqD (σ : View) (x y : V) : Option Bool := (x.toD σ 20).bind fun a => (y.toD σ 20).map (PyData.eqv a)
noncomputable def eqAll (σ : View) (b : List (Int × V)) : List (Int × V) → Option Bool
  | [] => some true
  | p :: r => match lookD p.1 b with
    | none => some false
    | some w => (eqD σ p.2 w).bind fun e => (eqAll σ b r).map fun t => e && t
noncomputable def eqDict (σ : View) (a b : List (Int × V)) : Option Bool := if a.length = b.length then eqAll σ b a else some false

noncomputable def eqV (σ : View) (x y : V) : Option Bool := match x.toD σ 20 with
  | some a => (y.toD σ 20).map (PyData.eqv a)
  | none => (dicOf σ x).bind fun a => (dicOf σ y).bind fun b => eqDict σ a b

noncomputable def clipI (n : Nat) (i : Int) : Nat := if i < 0 then (i + n).toNat else min i.toNat n
noncomputable def sliceL {α : Type} (xs : List α) (lo : Int) (hi : Option Int) : List α := (xs.take (hi.elim xs.length (clipI xs.length))).drop (clipI xs.length lo)

noncomputable def strLe (a b : Str) : Bool := !(decide (b.cps.toList < a.cps.toList))

noncomputable def idxOf (i : Int) (n : Nat) : Option Nat := if 0 ≤ i then (if i < n then some i.toNat else none) else (if -(n : Int) ≤ i then some (i + n).toNat else none)

noncomputable def ints? : List V → Option (List Int)
  | [] => some []
  | .int i :: r => (ints? r).map (i :: ·)
  | _ :: _ => none
noncomputable def bools? : List V → Option (List Bool)
  | [] => some []
  | .bool b :: r => (bools? r).map (b :: ·)
  | _ :: _ => none
noncomputable def strs? : List V → Option (List Str)
  | [] => some []
  | .str b :: r => (strs? r).map (b :: ·)
  | _ :: _ => none

noncomputable def big : Nat := 2 ^ 24
noncomputable def smallI (i : Int) : Bool := decide (-(2 ^ 62) < i) && decide (i < 2 ^ 62)

noncomputable def inT (k : Str) : V → Option Bool
  | .tup xs => (strs? xs).map fun ks => ks.contains k
  | _ => none
noncomputable def inV (σ : View) (x : V) : V → Option Bool := match x with
  | .int k => fun d => (dicOf σ d).map fun es => (lookD k es).isSome
  | .str k => inT k
  | _ => fun _ => none

noncomputable def sliceV (σ : View) (x : V) (a : Int) (b : Option Int) : Option V :=
  match x with
  | .tup xs => some (.tup (sliceL xs a b))
  | x => (lstOf σ x).map fun xs => .lst (sliceL xs a b)

noncomputable def int1 (f : Int → Option V) : V → Option V
  | .int a => f a
  | _ => none
noncomputable def str1 (f : Str → Option V) : V → Option V
  | .str a => f a
  | _ => none
noncomputable def tup1 (f : List V → Option V) : V → Option V
  | .tup a => f a
  | _ => none
noncomputable def itemQ (σ : View) (x : V) (i : Int) : Option V := match seqOf σ x with
  | some xs => (idxOf i xs.length).bind fun j => xs[j]?
  | none => (dicOf σ x).bind fun es => lookD i es
noncomputable def itemI (σ : View) (x : V) : Int → Option V := match x with
  | .str s => fun i => (idxOf i s.length).bind fun j => s.cps.toList[j]?.map fun c => .str ⟨#[c]⟩
  | x => itemQ σ x
noncomputable def itemV (σ : View) (x : V) : V → Option V := int1 (itemI σ x)
noncomputable def addL (σ : View) (x y : V) : Option V := (lstOf σ x).bind fun a => (lstOf σ y).bind fun b => if a.length + b.length ≤ big then some (.lst (a ++ b)) else none
noncomputable def addV (σ : View) (x : V) : V → Option V := match x with
  | .int a => int1 fun b => some (.int (a + b))
  | .str a => str1 fun b => if a.length + b.length ≤ big then some (.str (a ++ b)) else none
  | .tup a => tup1 fun b => if a.length + b.length ≤ big then some (.tup (a ++ b)) else none
  | x => addL σ x

noncomputable def mulFits (a b : Int) : Bool := !(decide (Builtin.Int.intBits a > shortFactorBits) && decide (Builtin.Int.intBits b > shortFactorBits) && Builtin.Int.intTooBig (Builtin.Int.intBits a + Builtin.Int.intBits b))

noncomputable def mulV (_σ : View) (x : V) : V → Option V := match x with
  | .int a => int1 fun b => if mulFits a b then some (.int (a * b)) else none
  | .str a => int1 fun n => if a.length * n.toNat ≤ big ∧ smallI n = true then some (.str ⟨(List.replicate n.toNat a.cps.toList).flatten.toArray⟩) else none
  | _ => fun _ => none

noncomputable def on1 (f : V → Option V) : List V → Option V
  | [] => none
  | x :: r => match r with
    | [] => f x
    | _ :: _ => none
noncomputable def on2 (f : V → V → Option V) : List V → Option V
  | [] => none
  | x :: r => on1 (f x) r
noncomputable def on3 (f : V → V → V → Option V) : List V → Option V
  | [] => none
  | x :: r => on2 (f x) r
noncomputable def int2 (f : Int → Int → Option V) (x y : V) : Option V := int1 (fun a => int1 (f a) y) x
noncomputable def bool1 (f : Bool → Option V) : V → Option V
  | .bool a => f a
  | _ => none
noncomputable def joinV (σ : View) (x : V) (sep : Str) : Option V := (lstOf σ x).bind fun xs => (strs? xs).bind fun ss => if sep.length = 0 ∧ (ss.map (·.length)).sum ≤ big then some (.str ⟨(ss.map (·.cps.toList)).flatten.toArray⟩) else none
/-- sorted, of fewer than 64 numbers that rise already -/
noncomputable def sortV (ks : List Int) : Option (List Int) := if ks.Pairwise (· < ·) ∧ ks.length < 64 then some ks else none
noncomputable def ordT (f : Int → Int → Bool) (g : Str → Str → Bool) : V → V → Option V
  | .int a => int1 fun b => some (.bool (f a b))
  | .str a => str1 fun b => some (.bool (g a b))
  | _ => fun _ => none
noncomputable def ordV (f : Int → Int → Bool) (g : Str → Str → Bool) : List V → Option V := on2 (ordT f g)
/-- what an operation without effects gives -/
noncomputable def pureOp (o : Op) (σ : View) (vs : List V) : Option V :=
  match o with
  | .add => on2 (addV σ) vs
  | .sub => on2 (int2 fun a b => some (.int (a - b))) vs
  | .mul => on2 (mulV σ) vs
  | .div => on2 (int2 fun a b => if 0 < b ∧ b < 2 ^ 29 then some (.int (a / b)) else none) vs
  | .mod => on2 (int2 fun a b => if 0 < b then some (.int (a % b)) else none) vs
  | .pow => on2 (int2 fun a b => if 1 < a ∧ a ≤ 10 ∧ 0 < b ∧ b ≤ 100 then some (.int (a ^ b.toNat)) else none) vs
  | .neg => on1 (int1 fun a => some (.int (-a))) vs
  | .eq => on2 (fun x y => (eqV σ x y).map .bool) vs
  | .ne => on2 (fun x y => (eqV σ x y).map fun b => .bool (!b)) vs
  | .lt => ordV (fun a b => decide (a < b)) (fun a b => !strLe b a) vs
  | .le => ordV (fun a b => decide (a ≤ b)) strLe vs
  | .gt => on2 (int2 fun a b => some (.bool (decide (b < a)))) vs
  | .ge => on2 (int2 fun a b => some (.bool (decide (b ≤ a)))) vs
  | .isIn => on2 (fun x y => (inV σ x y).map .bool) vs
  | .notIn => on2 (fun x y => (inV σ x y).map fun b => .bool (!b)) vs
  | .is => on2 (fun x y => (sameSingle x y).map .bool) vs
  | .isNot => on2 (fun x y => (sameSingle x y).map fun b => .bool (!b)) vs
  | .len => on1 (fun x => (lenOf σ x).map fun (n : Nat) => V.int (n : Int)) vs
  | .isinst t => on1 (fun x => (isTypeV σ t x).map .bool) vs
  | .list => on1 (fun x => (listItems σ x).map .lst) vs
  | .tuple => on1 (fun x => (seqOf σ x).map .tup) vs
  | .dictF => on1 (fun x => (dicOf σ x).map .dct) vs
  | .max2 => on2 (int2 fun a b => some (.int (max a b))) vs
  | .int => on1 (bool1 fun b => some (.int (if b then 1 else 0))) vs
  | .get => on2 (fun d => int1 fun k => (dicOf σ d).map fun es => (lookD k es).getD .none) vs
  | .join => on2 (fun x y => str1 (joinV σ y) x) vs
  | .item => on2 (itemV σ) vs
  | .slice lo hi => if lo then (if hi then on3 (fun x => int2 fun a b => sliceV σ x a (some b)) vs else on2 (fun x => int1 fun a => sliceV σ x a none) vs) else (if hi then on2 (fun x => int1 fun b => sliceV σ x 0 (some b)) vs else none)
  | .sorted => on1 (fun x => (lstOf σ x).bind fun xs => (ints? xs).bind fun ks => (sortV ks).map fun r => .lst (r.map .int)) vs
  | .mkTup => if vs.length ≤ 1000 then some (.tup vs) else none
  | .mkList => if vs.length ≤ 1000 then some (.lst vs) else none
  | _ => none
theorem on1_some {f : V → Option V} {vs : List V} {d : V} (h : on1 f vs = some d) : ∃ x, vs = [x] ∧ f x = some d := by
  cases vs with
  | nil => exact nn h
  | cons x r =>
    cases r with
    | nil => exact ⟨x, rfl, h⟩
    | cons _ _ => exact nn h
theorem on2_some {f : V → V → Option V} {vs : List V} {d : V} (h : on2 f vs = some d) : ∃ x y, vs = [x, y] ∧ f x y = some d := by
  cases vs with
  | nil => exact nn h
  | cons x r => obtain ⟨y, rfl, h⟩ := on1_some h; exact ⟨x, y, rfl, h⟩
theorem on3_some {f : V → V → V → Option V} {vs : List V} {d : V} (h : on3 f vs = some d) : ∃ x y z, vs = [x, y, z] ∧ f x y z = some d := by
  cases vs with
  | nil => exact nn h
  | cons x r => obtain ⟨y, z, rfl, h⟩ := on2_some h; exact ⟨x, y, z, rfl, h⟩
theorem int1_some {f : Int → Option V} {x d : V} (h : int1 f x = some d) : ∃ a, x = .int a ∧ f a = some d := by
  cases x with
  | int a => exact ⟨a, rfl, h⟩
  | _ => exact nn h
theorem int2_some {f : Int → Int → Option V} {x y d : V} (h : int2 f x y = some d) : ∃ a b, x = .int a ∧ y = .int b ∧ f a b = some d := by
  refine Exists.elim (int1_some h) ?_; rintro a hq1
  obtain ⟨b, hq0⟩ := int1_some hq1.2
  exact ⟨a, b, hq1.1, hq0.1, hq0.2⟩
theorem bool1_some {f : Bool → Option V} {x d : V} (h : bool1 f x = some d) : ∃ a, x = .bool a ∧ f a = some d := by
  cases x with
  | bool a => exact ⟨a, rfl, h⟩
  | _ => exact nn h
theorem str1_some {f : Str → Option V} {x d : V} (h : str1 f x = some d) : ∃ a, x = .str a ∧ f a = some d := by
  cases x with
  | str a => exact ⟨a, rfl, h⟩
  | _ => exact nn h
theorem tup1_some {f : List V → Option V} {x d : V} (h : tup1 f x = some d) : ∃ a, x = .tup a ∧ f a = some d := by
  cases x with
  | tup a => exact ⟨a, rfl, h⟩
  | _ => exact nn h
theorem ite_some {c : Prop} [Decidable c] {a d : V} (e : (if c then some a else none) = some d) : c ∧ d = a := by
  by_cases h : c
  · rw [if_pos h] at e; exact ⟨h, (Option.some.inj e).symm⟩
  · rw [if_neg h] at e; exact nn e

noncomputable def q1 (f : V → Prop) : List V → Prop
  | [] => False
  | x :: r => match r with
    | [] => f x
    | _ :: _ => False
noncomputable def q2 (f : V → V → Prop) : List V → Prop
  | [] => False
  | x :: r => q1 (f x) r
noncomputable def q3 (f : V → V → V → Prop) : List V → Prop
  | [] => False
  | x :: r => q2 (f x) r
noncomputable def onR (f : Addr → Prop) : V → Prop
  | .ref a => f a
  | _ => False
noncomputable def onI (f : Int → Prop) : V → Prop
  | .int a => f a
  | _ => False
noncomputable def onL (f : List V → Prop) : V → Prop
  | .lst a => f a
  | _ => False
theorem q1_inv {f : V → Prop} {vs : List V} (h : q1 f vs) : ∃ x, vs = [x] ∧ f x := by
  cases vs with
  | nil => exact h.elim
  | cons x r =>
    cases r with
    | nil => exact ⟨x, rfl, h⟩
    | cons _ _ => exact h.elim
theorem q2_inv {f : V → V → Prop} {vs : List V} (h : q2 f vs) : ∃ x y, vs = [x, y] ∧ f x y := by
  cases vs with
  | nil => exact h.elim
  | cons x r => refine Exists.elim (q1_inv h) fun y hx => ?_; obtain ⟨rfl, h⟩ := hx; exact ⟨x, y, rfl, h⟩
theorem q3_inv {f : V → V → V → Prop} {vs : List V} (h : q3 f vs) : ∃ x y z, vs = [x, y, z] ∧ f x y z := by
  cases vs with
  | nil => exact h.elim
  | cons x r => obtain ⟨y, z, rfl, h⟩ := q2_inv h; exact ⟨x, y, z, rfl, h⟩
theorem onR_inv {f : Addr → Prop} {v : V} (h : onR f v) : ∃ a, v = .ref a ∧ f a := by
  cases v with
  | ref a => exact ⟨a, rfl, h⟩
  | _ => exact h.elim
theorem onI_inv {f : Int → Prop} {v : V} (h : onI f v) : ∃ a, v = .int a ∧ f a := by
  cases v with
  | int a => exact ⟨a, rfl, h⟩
  | _ => exact h.elim
theorem onL_inv {f : List V → Prop} {v : V} (h : onL f v) : ∃ a, v = .lst a ∧ f a := by
  cases v with
  | lst a => exact ⟨a, rfl, h⟩
  | _ => exact h.elim
/-- the operations with effects, and the others -/
noncomputable def prim (o : Op) (vs : List V) (Q : Post) (σ : View) : Prop :=
  match o with
  | .dict => q1 (fun x => ∃ es, dicOf σ x = some es ∧ ∀ a, σ a = none → Q (.ref a) (σ.upd a (.dict false es))) vs
  | .append => q2 (fun r x => onR (fun a => ∃ xs, σ a = some (.list false xs) ∧ xs.length < big ∧ Q .none (σ.upd a (.list false (xs ++ [x])))) r) vs
  | .extend => q2 (fun r y => onR (fun a => onL (fun ys => ∃ xs, σ a = some (.list false xs) ∧ xs.length + ys.length ≤ big ∧ Q .none (σ.upd a (.list false (xs ++ ys)))) y) r) vs
  | .popL => q1 (onR fun a => ∃ xs x, σ a = some (.list false (xs ++ [x])) ∧ Q x (σ.upd a (.list false xs))) vs
  | .popD2 => q3 (fun r y d => onR (fun a => onI (fun k => ∃ es, σ a = some (.dict false es) ∧ Q ((lookD k es).getD d) (σ.upd a (.dict false (dropD k es)))) y) r) vs
  | .mkListM => vs.length ≤ 1000 ∧ ∀ a, σ a = none → Q (.ref a) (σ.upd a (.list false vs))
  | o => ∃ d, pureOp o σ vs = some d ∧ Q d σ

/-- the object a method is looked up in -/
noncomputable def methOk (o : Op) (x : V) (σ : View) : Prop := match o with
  | .append => ∃ l ro xs, x = .ref l ∧ σ l = some (.list ro xs)
  | .extend => ∃ l ro xs, x = .ref l ∧ σ l = some (.list ro xs)
  | .popL => ∃ l ro xs, x = .ref l ∧ σ l = some (.list ro xs)
  | .get => ∃ es, dicOf σ x = some es
  | .popD2 => ∃ es, dicOf σ x = some es
  | .join => ∃ z, x = .str z
  | _ => False

noncomputable abbrev Spec := Nat → List V → Post → View → Prop

/-- numbers from a on, below b (steps of one) -/
noncomputable def rangeL (a b _c : Int) : List Int := (List.range (b - a).toNat).map fun (k : Nat) => a + (k : Int)
/-- numbers from a on down, above b -/
noncomputable def rangeD (a b : Int) : List Int := (List.range (a - b).toNat).map fun (k : Nat) => a + (k : Int) * (-1)
noncomputable def intL (f : Int → Option (List V)) : V → Option (List V)
  | .int a => f a
  | _ => none
noncomputable def rangeXs : List V → Option (List V)
  | [] => none
  | x :: r => match r with
    | [] => intL (fun b => if smallI b then some ((rangeL 0 b 1).map .int) else none) x
    | y :: q => match q with
      | [] => intL (fun a => intL (fun b => if smallI a && smallI b then some ((rangeL a b 1).map .int) else none) y) x
      | z :: p => match p with
        | [] => intL (fun a => intL (fun b => intL (fun c => if (smallI a && smallI b) = true ∧ c = -1 then some ((rangeD a b).map .int) else none) z) y) x
        | _ :: _ => none
noncomputable def enumV (i : Nat) (x : V) : V := .tup [.int (i : Nat), x]
noncomputable def revT : V → Option (List V)
  | .tup xs => some xs.reverse
  | _ => none
/-- what a loop goes through: 0 a value's items, 1 a range, 2 enumerate, 3 reversed -/
noncomputable def itXs (k : Nat) (σ : View) (vs : List V) : Option (List V) :=
  match k with
  | 0 => match vs with
    | [x] => itemsOf σ x
    | _ => none
  | 1 => rangeXs vs
  | 2 => match vs with
    | [x] => (seqOf σ x).map fun xs => xs.mapIdx enumV
    | _ => none
  | 3 => match vs with
    | [x] => revT x
    | _ => none
  | _ => none
/-- while it is gone through, it is only read -/
noncomputable def lockV (σ : View) : List V → View
  | [.ref a] => match σ a with
    | some c => σ.upd a c.lock
    | none => σ
  | _ => σ
noncomputable def unlockV (σ₀ : View) (vs : List V) (σ : View) : View := match vs with
  | [.ref a] => match σ₀ a, σ a with
    | some (.list r xs), some _ => σ.upd a (.list r xs)
    | some (.dict r es), some _ => σ.upd a (.dict r es)
    | _, _ => σ
  | _ => σ
noncomputable def itWp (k : Nat) (vs : List V) (Q : List V → List V → View → Prop) (σ : View) : Prop := ∃ xs, itXs k σ vs = some xs ∧ Q xs vs σ

mutual
noncomputable def ewp (Φ : Spec) (G : Nat → V) (ls : Ls) : ME → Post → View → Prop
  | .var i, Q, σ => ∃ d, ls i = some d ∧ Q d σ
  | .lit d, Q, σ => Q d σ
  | .gcon k, Q, σ => Q (G k) σ
  | .op o args, Q, σ => ewps Φ G ls args (fun vs σ' => prim o vs Q σ') σ
  | .meth o obj args, Q, σ => ewp Φ G ls obj (fun x σ₁ => methOk o x σ₁ ∧ ewps Φ G ls args (fun vs σ₂ => prim o (x :: vs) Q σ₂) σ₁) σ
  | .dict m ks vs, Q, σ => ewps Φ G ls vs (fun vv σ₂ => ks.Nodup ∧ ks.length = vv.length ∧ (if m then ∀ a, σ₂ a = none → Q (.ref a) (σ₂.upd a (.dict false (ks.zip vv))) else Q (.dct (ks.zip vv)) σ₂)) σ
  | .and es, Q, σ => ewpAnd Φ G ls es Q σ
  | .or es, Q, σ => ewpOr Φ G ls es Q σ
  | .not e, Q, σ => ewp Φ G ls e (fun d σ' => ∃ b, truthV d = some b ∧ Q (.bool (!b)) σ') σ
  | .cmp2 o1 o2 a b c, Q, σ => ewp Φ G ls a (fun x σ₁ => ewp Φ G ls b (fun y σ₂ => prim o1 [x, y] (fun r σ₃ => ∃ t, truthV r = some t ∧ (if t then ewp Φ G ls c (fun z σ₄ => prim o2 [y, z] Q σ₄) σ₃ else Q r σ₃)) σ₂) σ₁) σ
  | .call f args, Q, σ => ewps Φ G ls args (fun vs σ' => Φ f vs Q σ') σ
  | .comp m elt x it ifs, Q, σ => ewpI Φ G ls it (fun xs u σ₁ => xs.length ≤ big ∧ ∃ I : Nat → List V → View → Prop, I 0 [] (lockV σ₁ u) ∧
      (∀ k v acc σ₂, xs[k]? = some v → I k acc σ₂ → ewpIfs Φ G (x.up v ls) ifs (fun b σ₃ => if b then ewp Φ G (x.up v ls) elt (fun d σ₄ => I (k + 1) (acc ++ [d]) σ₄) σ₃ else I (k + 1) acc σ₃) σ₂) ∧
      (∀ acc σ₂, I xs.length acc σ₂ → if m then ∀ a, unlockV σ₁ u σ₂ a = none → Q (.ref a) ((unlockV σ₁ u σ₂).upd a (.list false acc)) else Q (.lst acc) (unlockV σ₁ u σ₂))) σ
  | .frz e, Q, σ => ewp Φ G ls e (fun d σ' => ∃ a, d = .ref a ∧ ((∃ xs, σ' a = some (.list false xs) ∧ Q (.lst xs) (σ'.del a)) ∨ (∃ es, σ' a = some (.dict false es) ∧ Q (.dct es) (σ'.del a)))) σ
noncomputable def ewps (Φ : Spec) (G : Nat → V) (ls : Ls) : MEs → (List V → View → Prop) → View → Prop
  | .nil, Q, σ => Q [] σ
  | .cons e es, Q, σ => ewp Φ G ls e (fun v σ' => ewps Φ G ls es (fun vs σ'' => Q (v :: vs) σ'') σ') σ
noncomputable def ewpAnd (Φ : Spec) (G : Nat → V) (ls : Ls) : MEs → Post → View → Prop
  | .nil, _, _ => False
  | .cons e .nil, Q, σ => ewp Φ G ls e Q σ
  | .cons e es, Q, σ => ewp Φ G ls e (fun d σ' => ∃ b, truthV d = some b ∧ (if b then ewpAnd Φ G ls es Q σ' else Q d σ')) σ
noncomputable def ewpOr (Φ : Spec) (G : Nat → V) (ls : Ls) : MEs → Post → View → Prop
  | .nil, _, _ => False
  | .cons e .nil, Q, σ => ewp Φ G ls e Q σ
  | .cons e es, Q, σ => ewp Φ G ls e (fun d σ' => ∃ b, truthV d = some b ∧ (if b then Q d σ' else ewpOr Φ G ls es Q σ')) σ
noncomputable def ewpIfs (Φ : Spec) (G : Nat → V) (ls : Ls) : MEs → (Bool → View → Prop) → View → Prop
  | .nil, Q, σ => Q true σ
  | .cons e es, Q, σ => ewp Φ G ls e (fun d σ' => ∃ b, truthV d = some b ∧ (if b then ewpIfs Φ G ls es Q σ' else Q false σ')) σ
noncomputable def ewpI (Φ : Spec) (G : Nat → V) (ls : Ls) : MI → (List V → List V → View → Prop) → View → Prop
  | .seq e, Q, σ => ewp Φ G ls e (fun d σ' => itWp 0 [d] Q σ') σ
  | .range es, Q, σ => ewps Φ G ls es (fun vs σ' => itWp 1 vs Q σ') σ
  | .enum es, Q, σ => ewps Φ G ls es (fun vs σ' => itWp 2 vs Q σ') σ
  | .rev es, Q, σ => ewps Φ G ls es (fun vs σ' => itWp 3 vs Q σ') σ
end

/-- a test, as `if` and `while` ask it -/
noncomputable def twp (Φ : Spec) (G : Nat → V) (ls : Ls) (e : ME) (Q : Bool → View → Prop) (σ : View) : Prop := ewp Φ G ls e (fun d σ' => ∃ b, truthV d = some b ∧ Q b σ') σ

mutual
noncomputable def swp (Φ : Spec) (G : Nat → V) : MS → (View → Ls → Prop) → Post → View → Ls → Prop
  | .assign i e, Q, _, σ, ls => ewp Φ G ls e (fun d σ' => Q σ' (ls.set i d)) σ
  | .setSub o k e, Q, _, σ, ls => ewp Φ G ls e (fun d σ₁ => ewp Φ G ls o (fun x σ₂ => ewp Φ G ls k (fun y σ₃ => ∃ a j es, x = .ref a ∧ y = .int j ∧ σ₃ a = some (.dict false es) ∧ es.length < big ∧ Q (σ₃.upd a (.dict false (putD j d es))) ls) σ₂) σ₁) σ
  | .expr e, Q, _, σ, ls => ewp Φ G ls e (fun _ σ' => Q σ' ls) σ
  | .ite t a b, Q, R, σ, ls => twp Φ G ls t (fun c σ' => if c then swps Φ G a Q R σ' ls else swps Φ G b Q R σ' ls) σ
  | .loop t b, Q, R, σ, ls => ∃ I : Nat → View → Ls → Prop, (∃ n, I n σ ls) ∧
      ∀ n σ₁ ls₁, I n σ₁ ls₁ → twp Φ G ls₁ t (fun c σ₂ => if c then swps Φ G b (fun σ₃ ls₃ => ∃ m, m < n ∧ I m σ₃ ls₃) R σ₂ ls₁ else Q σ₂ ls₁) σ₁
  | .for1 i it b, Q, R, σ, ls => ewpI Φ G ls it (fun xs u σ₁ => ∃ I : Nat → View → Ls → Prop, I 0 (lockV σ₁ u) ls ∧
      (∀ k v σ₂ ls₂, xs[k]? = some v → I k σ₂ ls₂ → swps Φ G b (fun σ₃ ls₃ => I (k + 1) σ₃ ls₃) (fun d σ₃ => R d (unlockV σ₁ u σ₃)) σ₂ (i.up v ls₂)) ∧
      (∀ σ₂ ls₂, I xs.length σ₂ ls₂ → Q (unlockV σ₁ u σ₂) ls₂)) σ
  | .ret e, _, R, σ, ls => ewp Φ G ls e R σ
  | .freeze i, Q, _, σ, ls => ∃ a, ls i = some (.ref a) ∧ ((∃ xs, σ a = some (.list false xs) ∧ Q (σ.del a) (ls.set i (.lst xs))) ∨ (∃ es, σ a = some (.dict false es) ∧ Q (σ.del a) (ls.set i (.dct es))))
noncomputable def swps (Φ : Spec) (G : Nat → V) : MSs → (View → Ls → Prop) → Post → View → Ls → Prop
  | .nil, Q, _, σ, ls => Q σ ls
  | .cons s r, Q, R, σ, ls => swp Φ G s (fun σ' ls' => swps Φ G r Q R σ' ls') R σ ls
end
end Mine
end

section

open PySem PyProof.Rows
namespace Mine

inductive EOut (C : Cx) (ls : Ls) {α : Type} (Q : α → View → Shared → Prop) (h : Heap) (σ : View) (a : α) (s' : Shared) : Prop
  | mk (σ' : View) : Good C σ' ls s' → Step C.own h σ s'.heap σ' → Q a σ' s' → EOut C ls Q h σ a s'
/-- from this state the tree ends well, the frame's good state kept -/
noncomputable def TrE (C : Cx) (ls : Ls) {α : Type} (t : Sem α) (Q : α → View → Shared → Prop) (σ : View) (s : Shared) : Prop :=
  wpAny (model C.W.prog C.W.w) C.A t (EOut C ls Q s.heap σ) (fun _ _ => False) s

section
variable {C : Cx} {ls : Ls} {α β : Type} {σ : View} {s : Shared}

theorem TrE.mono {t : Sem α} {Q Q' : α → View → Shared → Prop} (h : TrE C ls t Q σ s) (k : ∀ a σ' s', Good C σ' ls s' → Step C.own s.heap σ s'.heap σ' → Q a σ' s' → Q' a σ' s') : TrE C ls t Q' σ s :=
  wpAny_mono h (fun a s' hx => by obtain ⟨σ', G, S, q⟩ := hx; exact ⟨σ', G, S, k a σ' s' G S q⟩) fun _ _ x => x
/-- at the end of a tree -/
theorem TrE.end {Q : α → View → Shared → Prop} {a : α} (G : Good C σ ls s) (h : Q a σ s) : EOut C ls Q s.heap σ a s := ⟨σ, G, Step.refl _ _ _, h⟩
theorem TrE.pure {Q : α → View → Shared → Prop} {a : α} (G : Good C σ ls s) (h : Q a σ s) : TrE C ls (pure a) Q σ s := wpAny_pure (TrE.end G h)
theorem TrE.bind {m : Sem α} {f : α → Sem β} {Q : β → View → Shared → Prop} (h : TrE C ls m (fun a σ' s' => TrE C ls (f a) Q σ' s') σ s) : TrE C ls (m >>= f) Q σ s :=
  wpAny_bind (wpAny_mono h (fun _ _ hx => by obtain ⟨_, _, S, h'⟩ := hx; exact wpAny_mono h' (fun _ _ hx => by obtain ⟨σ'', G', S', q⟩ := hx; exact ⟨σ'', G', S.trans S', q⟩) fun _ _ x => x) fun _ _ x => x)
theorem TrE.holding {vs : List Value} {m : Sem α} {Q : α → View → Shared → Prop} (h : TrE C ls m Q σ s) : TrE C ls (holding vs m) Q σ s := wpAny_holding h
theorem TrE.standAt {pos : Pos} {Q : Unit → View → Shared → Prop} (G : Good C σ ls s) (h : Q () σ s) : TrE C ls (standAt pos) Q σ s := wpAny_standAt (TrE.end G h)
theorem TrE.operate {vs : List Value} {m : Sem Value} {Q : Value → View → Shared → Prop} (h : TrE C ls m Q σ s) : TrE C ls (operate vs m) Q σ s := wpAny_operate' h
/-- a tree that changes nothing but tokens -/
theorem TrE.quiet {t : Sem α} {Q : α → View → Shared → Prop} (G : Good C σ ls s) (h : wpAny (model C.W.prog C.W.w) C.A t (fun a s' => (∃ tk, s' = { s with toks := tk }) ∧ Q a σ s') (fun _ _ => False) s) : TrE C ls t Q σ s :=
  wpAny_mono h (fun a s' hx => by obtain ⟨⟨tk, e⟩, q⟩ := hx; exact ⟨σ, by rw [e]; exact G.toks tk, by rw [e]; exact Step.refl _ _ _, q⟩) fun _ _ x => x

theorem Good.leaves {σ' : View} {h' : Heap} (G : Good C σ ls s) (S : Step C.own s.heap σ h' σ') : Leaves s.heap (C.D σ) h' (C.D σ') := G.toGround.leaves S
theorem Real.step {σ' : View} {h' : Heap} {v : Value} {x : V} (r : Real s.heap (C.D σ) v x) (G : Good C σ ls s) (S : Step C.own s.heap σ h' σ') : Real h' (C.D σ') v x := r.leaves (G.leaves S)
theorem Reals.step {σ' : View} {h' : Heap} {vs : List Value} {xs : List V} (r : Reals s.heap (C.D σ) vs xs) (G : Good C σ ls s) (S : Step C.own s.heap σ h' σ') : Reals h' (C.D σ') vs xs := r.leaves (G.leaves S)
end

/-- values read as data -/
inductive RV (C : Cx) (Q : Post) (v : Value) (σ : View) (s : Shared) : Prop
  | mk (x : V) : Real s.heap (C.D σ) v x → Q x σ → RV C Q v σ s
theorem Reals.length {h : Heap} {D : Addr → Prop} {vs : List Value} {xs : List V} (r : Reals h D vs xs) : vs.length = xs.length := by
  induction xs generalizing vs with
  | nil => exact congrArg List.length r.nil_i
  | cons x xs ih => obtain ⟨v, ws, rfl, a, b⟩ := r.cons_i; exact congrArg Nat.succ (ih b)
theorem Reals.get {h : Heap} {D : Addr → Prop} {vs : List Value} {xs : List V} (r : Reals h D vs xs) {i : Nat} {x : V} (e : xs[i]? = some x) : ∃ v, vs[i]? = some v ∧ Real h D v x := by
  induction xs generalizing vs i with
  | nil => exact nn e
  | cons y xs ih =>
    obtain ⟨v, ws, rfl, a, b⟩ := r.cons_i
    cases i with
    | zero => exact ⟨v, rfl, Option.some.inj e ▸ a⟩
    | succ i => exact ih b e
theorem Reals.get' {h : Heap} {D : Addr → Prop} {vs : List Value} {xs : List V} (r : Reals h D vs xs) {i : Nat} {v : Value} (e : vs[i]? = some v) : ∃ x, xs[i]? = some x ∧ Real h D v x := by
  induction xs generalizing vs i with
  | nil => obtain rfl := r.nil_i; exact nn e
  | cons y xs ih =>
    obtain ⟨w, ws, rfl, a, b⟩ := r.cons_i
    cases i with
    | zero => exact ⟨y, rfl, Option.some.inj e ▸ a⟩
    | succ i => exact ih b e
theorem Reals.append {h : Heap} {D : Addr → Prop} {vs ws : List Value} {xs ys : List V} (r : Reals h D vs xs) (k : Reals h D ws ys) : Reals h D (vs ++ ws) (xs ++ ys) := by
  induction xs generalizing vs with
  | nil => obtain rfl := r.nil_i; exact k
  | cons y xs ih => obtain ⟨v, ws, rfl, a, b⟩ := r.cons_i; exact .cons a (ih b)
theorem Reals.take {h : Heap} {D : Addr → Prop} {vs : List Value} {xs : List V} (n : Nat) (r : Reals h D vs xs) : Reals h D (vs.take n) (xs.take n) := by
  induction xs generalizing vs n with
  | nil => obtain rfl := r.nil_i; simp only [List.take_nil, List.take_nil]; exact .nil
  | cons y xs ih =>
    obtain ⟨v, ws, rfl, a, b⟩ := r.cons_i
    cases n with
    | zero => exact .nil
    | succ n => exact .cons a (ih n b)
theorem Reals.drop {h : Heap} {D : Addr → Prop} {vs : List Value} {xs : List V} (n : Nat) (r : Reals h D vs xs) : Reals h D (vs.drop n) (xs.drop n) := by
  induction xs generalizing vs n with
  | nil => obtain rfl := r.nil_i; simp only [List.drop_nil, List.drop_nil]; exact .nil
  | cons y xs ih =>
    cases n with
    | zero => exact r
    | succ n => obtain ⟨v, ws, rfl, a, b⟩ := r.cons_i; exact ih n b
theorem RealD.length {h : Heap} {D : Addr → Prop} {es : List DictEntry} {xs : List (Int × V)} (r : RealD h D es xs) : es.length = xs.length := by
  induction es generalizing xs with
  | nil => exact r.nil_i ▸ rfl
  | cons e es ih => obtain ⟨k, t, x, ys, rfl, _, _, _, r'⟩ := r.cons_i; exact congrArg Nat.succ (ih r')

/-! new objects, changed objects -/
section
variable {C : Cx} {ls : Ls} {σ : View} {s : Shared}

theorem Good.newAddr (G : Good C σ ls s) : ¬ C.D σ s.heap.objs.size := fun h => absurd (G.toGround.lt h) (Nat.lt_irrefl _)
theorem HasVal.at {h h' : Heap} {env : Env} {x : Str} {v : Value} (k : ∀ b, b = env.locals ∨ (∃ y, env.cells.lookup y = some b) → ∀ o, h.get? b = some o → h'.get? b = some o) (hv : HasVal h env x v) : HasVal h' env x v := by
  rcases hv with ⟨a, m, n, e⟩ | ⟨a, c, e, o, ho, hd⟩
  · exact .inl ⟨a, m, n.at' (k _ (.inl rfl)), e⟩
  · exact .inr ⟨a, c, e, o, k c (.inr ⟨_, e⟩) o ho, hd⟩
theorem HasVal.keeps {h h' : Heap} {env : Env} {x : Str} {v : Value} (k : ∀ b o, h.get? b = some o → h'.get? b = some o) (hv : HasVal h env x v) : HasVal h' env x v := hv.at fun b _ o e => k b o e

/-- the heap and the view change, the frame's own objects stay -/
theorem Good.change {σ' : View} {h' : Heap} {tk : Nat} (G : Good C σ ls s) (S : Step C.own s.heap σ h' σ')
    (own : ∀ b, C.own b → ∀ o, s.heap.get? b = some o → h'.get? b = some o)
    (sub : ∀ a, σ' a ≠ none → C.W.s₀.heap.objs.size ≤ a) (ap : ∀ a, C.own a ∨ C.B a → σ' a = none)
    (sim : ∀ a c, σ' a = some c → CellAt h' (C.D σ') a c) : Good C σ' ls { s with heap := h', toks := tk } := by
  have keepOB : ∀ b, C.own b ∨ C.B b → ∀ o, s.heap.get? b = some o → h'.get? b = some o := fun b hb o e => by
    rcases hb with hb | hb
    · exact own b hb o e
    · exact S.keep b o e (Rw.of_none (G.apart b (.inr hb))) fun ho => G.apart2 b ho hb
  have L := G.leaves S
  refine ⟨⟨fun b o e => ?_, G.same, fun a h => ?_, Nat.le_trans G.larger S.size, sim, ap, G.apart2, fun a h => let ⟨o, e⟩ := G.old a h; ⟨o, keepOB a h o e⟩⟩, ?_⟩
  · have hd : ¬ C.D σ b := fun hd => absurd (Heap.lt_size e) (Nat.not_lt.mpr (G.fresh b hd))
    exact (L b o (G.stays b o e) hd).1
  · rcases h with h | h
    · exact sub a h
    · exact G.fresh a (.inr h)
  · have F := G.fr
    obtain ⟨m, hm⟩ := F.ns
    refine ⟨F.kind, F.glob, F.blt, ⟨m, hm.at' fun o e => keepOB _ (.inl F.ownL) o e⟩, F.ownL, fun x c e => ?_, F.inj, fun i x d e1 e2 e3 => ?_, F.nodup, F.has⟩
    · obtain ⟨h1, h2, v, o, hq1⟩ := F.cells x c e
      exact ⟨h1, h2, v, o, keepOB c h1 o hq1.1, hq1.2⟩
    · obtain ⟨v, hq0⟩ := F.val i x d e1 e2 e3
      refine ⟨v, hq0.1.at fun b hb o e => ?_, hq0.2.leaves L⟩
      rcases hb with rfl | ⟨y, hy⟩
      · exact keepOB _ (.inl F.ownL) o e
      · exact keepOB b (F.cells y b hy).1 o e

theorem CellAt.leaves {h h' : Heap} {D D' : Addr → Prop} {a : Addr} {c : Cell} (L : Leaves h D h' D') (e : ∀ o, h.get? a = some o → h'.get? a = some o) : CellAt h D a c → CellAt h' D' a c := by
  cases c with
  | list _ xs => rintro ⟨vs, n, ho, hz, r⟩; exact ⟨vs, n, e _ ho, hz, r.leaves L⟩
  | dict _ es => rintro ⟨ds, n, ho, hz, hn, r⟩; exact ⟨ds, n, e _ ho, hz, hn, r.leaves L⟩

theorem Step.push (own : Addr → Prop) (h : Heap) (σ : View) (o : Obj) : Step own h σ (h.push o) σ := ⟨fun _ _ e _ _ => Heap.get?_push_of_some _ e, by rw [Heap.size_push]; solve_by_elim (maxDepth := 2) [Nat.le_of_lt, Nat.le_trans, Nat.lt_of_lt_of_le, Nat.lt_of_le_of_lt, Nat.le_succ_of_le, Nat.lt_succ_of_le, Nat.le_of_succ_le, Nat.le_of_lt_succ, Nat.not_lt.mp, Nat.not_le.mp, Nat.le_add_right, Nat.le_add_left, Nat.sub_le], fun _ h1 h2 => absurd h2 h1, fun _ _ _ e _ => .inl e⟩

/-- a new object that the view does not hold -/
theorem Good.push (G : Good C σ ls s) (o : Obj) (tk : Nat) : Good C σ ls { s with heap := s.heap.push o, toks := tk } := by
  have S := Step.push C.own s.heap σ o
  exact G.change S (fun b _ o e => Heap.get?_push_of_some _ e) (fun a h => G.fresh a (.inl h)) G.apart
    fun a c e => (G.sim a c e).leaves (G.leaves S) fun o' e' => Heap.get?_push_of_some _ e'

theorem Step.setCell {own : Addr → Prop} {h h' : Heap} {σ : View} {a : Addr} {c c' : Cell} (e : σ a = some c) (hr : c.ro = false) (hs : Heap.SameBut a h h') : Step own h σ h' (σ.upd a c') :=
  ⟨fun b _ eb hb _ => (hs.2 b (by rintro rfl; exact hb ⟨c, e, hr⟩)).trans eb, Nat.le_of_eq hs.1.symm, fun b h1 h2 => by
    by_cases q : b = a
    · rw [q, e] at h2; exact nn (Eq.symm h2)
    · rw [upd_ne q] at h1; exact absurd h2 h1, fun b d _ eb hd => .inl (by
      have : b ≠ a := by rintro rfl; cases Eq.trans (Eq.symm e) eb; exact ff (Eq.trans (Eq.symm hr) hd)
      exact (upd_ne this) ▸ eb)⟩

/-- an object that the view holds changes -/
theorem Good.setCell {a : Addr} {c c' : Cell} {h' : Heap} {tk : Nat} (G : Good C σ ls s) (e : σ a = some c) (hr : c.ro = false) (hs : Heap.SameBut a s.heap h')
    (hc : CellAt h' (C.D (σ.upd a c')) a c') : Good C (σ.upd a c') ls { s with heap := h', toks := tk } := by
  have S := Step.setCell (own := C.own) (c' := c') e hr hs
  have na : ∀ b, C.own b ∨ C.B b → b ≠ a := fun b hb => by rintro rfl; have := G.apart b hb; rw [e] at this; exact nn (Eq.symm this)
  refine G.change S (fun b hb o eb => (hs.2 b (na b (.inl hb))).trans eb) (fun b h => ?_) (fun b h => ?_) fun b c₁ eb => ?_
  · by_cases q : b = a
    · exact q ▸ (G.fresh a (.inl (not_some e)))
    · rw [upd_ne q] at h; exact G.fresh b (.inl h)
  · rw [upd_ne (na b h)]; exact G.apart b h
  · by_cases q : b = a
    · cases q; rw [upd_self] at eb; cases eb; exact hc
    · rw [upd_ne q] at eb
      exact (G.sim b c₁ eb).leaves (G.leaves S) fun o eo => (hs.2 b q).trans eo

theorem D_upd {a : Addr} {c c' : Cell} (e : σ a = some c) : C.D (σ.upd a c') = C.D σ := by
  funext b
  simp only [Cx.D]
  by_cases q : b = a
  · subst q; simp [e]
  · rw [upd_ne q]

/-- for a while an object is only read -/
theorem CellAt.lock {h : Heap} {D : Addr → Prop} {a : Addr} {c : Cell} : CellAt h D a c.lock ↔ CellAt h D a c := by cases c <;> exact Iff.rfl
/-- the view lets an object go: it is read as it is from now on -/
theorem Good.del {a : Addr} (G : Good C σ ls s) : Good C (σ.del a) ls s := by
  have sub : ∀ b, σ.del a b ≠ none → σ b ≠ none := fun b h => by
    by_cases q : b = a
    · subst q; simp at h
    · rwa [del_ne q] at h
  have S : Step C.own s.heap σ s.heap (σ.del a) := ⟨fun _ _ e _ _ => e, Nat.le_refl _, fun b h1 h2 => absurd h2 (sub b h1), fun b c _ e _ => by
    by_cases q : b = a
    · subst q; exact .inr (by simp)
    · exact .inl (((del_ne q) ▸ e))⟩
  have := G.change (tk := s.toks) S (fun _ _ _ e => e) (fun b h => G.fresh b (.inl (sub b h))) (fun b h => by
    cases e : σ.del a b with
    | none => rfl
    | some c => exact absurd (G.apart b h) (sub b (not_some e))) fun b c e => by
      have hb : b ≠ a := by rintro rfl; simp at e
      replace e := (del_ne hb) ▸ e
      exact (G.sim b c e).leaves (G.leaves S) fun _ x => x
  exact this
theorem Step.del (own : Addr → Prop) (h : Heap) (σ : View) (a : Addr) : Step own h σ h (σ.del a) := ⟨fun _ _ e _ _ => e, Nat.le_refl _, fun b h1 h2 => by
  by_cases q : b = a
  · subst q; simp at h1
  · rw [del_ne q] at h1; exact absurd h2 h1, fun b c _ e _ => by
    by_cases q : b = a
    · subst q; exact .inr (by simp)
    · exact .inl (by rw [del_ne q]; exact e)⟩
theorem not_D_del {a : Addr} (G : Good C σ ls s) {c : Cell} (e : σ a = some c) : ¬ C.D (σ.del a) a := by
  rintro (h | h)
  · simp at h
  · have := G.apart a h; rw [e] at this; exact nn (Eq.symm this)
theorem Good.freezeL {a : Addr} {xs : List V} (G : Good C σ ls s) {ro : Bool} (e : σ a = some (.list ro xs)) : Real s.heap (C.D (σ.del a)) (.ref a) (.lst xs) := by
  obtain ⟨vs, n, ho, hz, r⟩ := G.sim a _ e
  exact .lst ho hz (not_D_del G e) (r.leaves (G.leaves (Step.del _ _ _ _)))
theorem Wd.Ok.two {W : Wd} (h : W.Ok) : 2 < W.s₀.heap.objs.size := by
  refine Exists.elim h.top.nolimit ?_; rintro mc hq0
  exact hq0.1.lt
theorem Good.freezeD {a : Addr} {es : List (Int × V)} (hW : C.W.Ok) (G : Good C σ ls s) {ro : Bool} (e : σ a = some (.dict ro es)) : Real s.heap (C.D (σ.del a)) (.ref a) (.dct es) := by
  obtain ⟨vs, n, ho, hz, hn, r⟩ := G.sim a _ e
  exact .dct ho hz hn (Nat.lt_of_lt_of_le hW.two (G.fresh a (.inl (not_some e)))) (not_D_del G e) (r.leaves (G.leaves (Step.del _ _ _ _)))
end
end Mine
end

section

open PySem PyProof.Rows
namespace Mine

/-- what the walks need of the context -/
structure Rm (C : Cx) : Prop where
  ok : C.W.Ok
  hh : C.A.handled = none
  units : C.A.units + 200 < cLine

/-- a tree gives a datum, the view as it was -/
noncomputable def Gives (C : Cx) (ls : Ls) (t : Sem Value) (d : V) (σ : View) (s : Shared) : Prop := TrE C ls t (fun v σ' s' => Real s'.heap (C.D σ') v d ∧ σ' = σ) σ s

section
variable {C : Cx} {ls : Ls} {σ : View} {s : Shared}

theorem Gives.then {t : Sem Value} {d : V} {Q : Post} (h : Gives C ls t d σ s) (q : Q d σ) : TrE C ls t (RV C Q) σ s :=
  TrE.mono h fun v σ' s' _ _ hx => by obtain ⟨r, e⟩ := hx; exact ⟨d, r, (e ▸ q)⟩
theorem Gives.quiet {t : Sem Value} {d : V} (G : Good C σ ls s) (h : wpAny (model C.W.prog C.W.w) C.A t (fun v s' => (∃ tk, s' = { s with toks := tk }) ∧ Real s.heap (C.D σ) v d) (fun _ _ => False) s) : Gives C ls t d σ s :=
  TrE.quiet G (wpAny_mono h (fun v s' hx => by obtain ⟨⟨tk, e⟩, r⟩ := hx; exact ⟨⟨tk, e⟩, (e ▸ r), rfl⟩) fun _ _ x => x)
/-- a new object, read as it is -/
theorem Gives.new {t : Sem Value} {d : V} {o : Obj} (G : Good C σ ls s) (hd : Real (s.heap.push o) (C.D σ) (.ref s.heap.objs.size) d)
    (h : wpAny (model C.W.prog C.W.w) C.A t (fun v s' => v = .ref s.heap.objs.size ∧ ∃ tk, s' = { s with heap := s.heap.push o, toks := tk }) (fun _ _ => False) s) : Gives C ls t d σ s :=
  wpAny_mono h (fun v s' hx => by obtain ⟨ev, tk, e⟩ := hx; exact ⟨σ, by rw [e]; exact G.push o tk, by rw [e]; exact Step.push _ _ _ _, by rw [e, ev]; exact hd, rfl⟩) fun _ _ x => x
/-- the heap grows by what nobody reads -/
theorem Gives.grown {t : Sem Value} {d : V} (G : Good C σ ls s)
    (h : wpAny (model C.W.prog C.W.w) C.A t (fun v s' => (∃ h' tk, s' = { s with heap := h', toks := tk } ∧ (∀ b o, s.heap.get? b = some o → h'.get? b = some o)) ∧ ∀ h' : Heap, (∀ b o, s.heap.get? b = some o → h'.get? b = some o) → s'.heap = h' → Real h' (C.D σ) v d) (fun _ _ => False) s) : Gives C ls t d σ s := by
  refine wpAny_mono (wpAny_size h) (fun v s' hh => ?_) fun _ _ x => x.2
  obtain ⟨hz, ⟨h', tk, e, k⟩, r⟩ := hh
  have S : Step C.own s.heap σ h' σ := ⟨fun b o eb _ _ => k b o eb, by rw [e] at hz; exact hz, fun _ h1 h2 => absurd h2 h1, fun _ _ _ e _ => .inl e⟩
  refine ⟨σ, ?_, by rw [e]; exact S, by rw [e]; exact r h' k ((congrArg _ e)), rfl⟩
  simp only [e]
  exact G.change S (fun b _ o eb => k b o eb) (fun a ha => G.fresh a (.inl ha)) G.apart fun a c ea => (G.sim a c ea).leaves (G.leaves S) fun o eo => k a o eo

theorem Real.push {v : Value} {x : V} (G : Good C σ ls s) (o : Obj) (r : Real s.heap (C.D σ) v x) : Real (s.heap.push o) (C.D σ) v x := r.leaves (G.leaves (Step.push _ _ _ _))
theorem Reals.push {v : List Value} {x : List V} (G : Good C σ ls s) (o : Obj) (r : Reals s.heap (C.D σ) v x) : Reals (s.heap.push o) (C.D σ) v x := r.leaves (G.leaves (Step.push _ _ _ _))
theorem new_lst {vs : Array Value} {xs : List V} (G : Good C σ ls s) (hz : vs.size ≤ 2 ^ 24) (r : Reals s.heap (C.D σ) vs.toList xs) : Real (s.heap.push (listObj vs 0)) (C.D σ) (.ref s.heap.objs.size) (.lst xs) :=
  .lst (Heap.get?_push_size _ rfl) hz G.newAddr (r.push G _)
theorem new_tup {vs : Array Value} {xs : List V} (G : Good C σ ls s) (hz : vs.size ≤ 2 ^ 24) (r : Reals s.heap (C.D σ) vs.toList xs) : Real (s.heap.push (tupObj vs 0)) (C.D σ) (.ref s.heap.objs.size) (.tup xs) :=
  .tup (Heap.get?_push_size _ rfl) hz G.newAddr (r.push G _)

/-! what stands behind data -/
inductive LstI (h : Heap) (D : Addr → Prop) (v : Value) (xs : List V) : Prop
  | mk (a : Addr) (vs : Array Value) (n : Nat) : v = .ref a → h.get? a = some (listObj vs n) → vs.size ≤ 2 ^ 24 → Reals h D vs.toList xs → LstI h D v xs
inductive SeqI (h : Heap) (D : Addr → Prop) (v : Value) (xs : List V) : Prop
  | mk (a : Addr) (vs : Array Value) (n : Nat) : v = .ref a → (h.get? a = some (listObj vs n) ∨ h.get? a = some (tupObj vs n)) → vs.size ≤ 2 ^ 24 → Reals h D vs.toList xs → SeqI h D v xs
inductive DicI (h : Heap) (D : Addr → Prop) (v : Value) (xs : List (Int × V)) : Prop
  | mk (a : Addr) (es : Array DictEntry) (n : Nat) : v = .ref a → h.get? a = some (dictObj es n) → es.size ≤ 2 ^ 24 → (xs.map (·.1)).Nodup → 2 < a → RealD h D es.toList xs → DicI h D v xs
theorem lstOf_ref {a : Addr} {xs : List V} (h : lstOf σ (.ref a) = some xs) : ∃ ro, σ a = some (.list ro xs) := by
  have h : (match σ a with | some (.list _ xs) => some xs | _ => none) = some xs := h
  cases e : σ a with
  | none => rw [e] at h; exact nn h
  | some c =>
    rw [e] at h
    cases c with
    | list ro ys => exact ⟨ro, ((Option.some.inj h) ▸ rfl)⟩
    | dict _ _ => exact nn h
theorem dicOf_ref {a : Addr} {xs : List (Int × V)} (h : dicOf σ (.ref a) = some xs) : ∃ ro, σ a = some (.dict ro xs) := by
  have h : (match σ a with | some (.dict _ xs) => some xs | _ => none) = some xs := h
  cases e : σ a with
  | none => rw [e] at h; exact nn h
  | some c =>
    rw [e] at h
    cases c with
    | dict ro ys => exact ⟨ro, ((Option.some.inj h) ▸ rfl)⟩
    | list _ _ => exact nn h
theorem lst_at {v : Value} {x : V} {xs : List V} (G : Good C σ ls s) (r : Real s.heap (C.D σ) v x) (h : lstOf σ x = some xs) :
    LstI s.heap (C.D σ) v xs := by
  cases x with
  | lst ys => obtain ⟨a, vs, n, e, ho, hz, _, rs⟩ := r.lst_i; exact ⟨a, vs, n, e, ho, hz, Option.some.inj h ▸ rs⟩
  | ref a =>
    refine Exists.elim (lstOf_ref h) ?_; rintro ro e
    obtain ⟨vs, n, ho, hz, rs⟩ := G.sim a _ e
    exact ⟨a, vs, n, r.ref_i, ho, hz, rs⟩
  | _ => exact nn h
theorem seq_at {v : Value} {x : V} {xs : List V} (G : Good C σ ls s) (r : Real s.heap (C.D σ) v x) (h : seqOf σ x = some xs) :
    SeqI s.heap (C.D σ) v xs := by
  cases x with
  | tup ys => obtain ⟨a, vs, n, e, ho, hz, _, rs⟩ := r.tup_i; exact ⟨a, vs, n, e, .inr ho, hz, Option.some.inj h ▸ rs⟩
  | _ => obtain ⟨a, vs, n, e, ho, hz, rs⟩ := lst_at G r h; exact ⟨a, vs, n, e, .inl ho, hz, rs⟩
theorem dic_at {v : Value} {x : V} {xs : List (Int × V)} (hW : C.W.Ok) (G : Good C σ ls s) (r : Real s.heap (C.D σ) v x) (h : dicOf σ x = some xs) :
    DicI s.heap (C.D σ) v xs := by
  cases x with
  | dct ys =>
    obtain ⟨a, vs, n, e, ho, hz, hn, h2, _, rs⟩ := r.dct_i
    obtain rfl := Option.some.inj h
    exact ⟨a, vs, n, e, ho, hz, hn, h2, rs⟩
  | ref a =>
    refine Exists.elim (dicOf_ref h) ?_; rintro ro e
    obtain ⟨vs, n, ho, hz, hn, rs⟩ := G.sim a _ e
    exact ⟨a, vs, n, r.ref_i, ho, hz, hn, Nat.lt_of_lt_of_le hW.two (G.fresh a (.inl (not_some e))), rs⟩
  | _ => exact nn h

theorem isList_of {h : Heap} {a : Addr} {vs : Array Value} {n : Nat} (e : h.get? a = some (listObj vs n)) : h.IsList a vs := ⟨_, e, rfl, n, rfl⟩
theorem isTup_of {h : Heap} {a : Addr} {vs : Array Value} {n : Nat} (e : h.get? a = some (tupObj vs n)) : IsTup h a vs := ⟨_, e, rfl, n, rfl⟩

/-- the keys and the values of a dict, as the library says them -/
theorem RealD.pairs {prog : Program} {w : World} {h : Heap} {D : Addr → Prop} {es : List DictEntry} {xs : List (Int × V)} (r : RealD h D es xs) :
    ∃ kvs : List (Int × Value), Pairs (intKind prog w) es kvs ∧ kvs.map (·.1) = xs.map (·.1) ∧ Reals h D (kvs.map (·.2)) (xs.map (·.2)) ∧ ∀ e ∈ es, ∃ k, (intKind prog w).is k e.key = true ∧ e.hash = (intKind prog w).hash k := by
  induction es generalizing xs with
  | nil => exact r.nil_i ▸ (⟨[], .nil, rfl, .nil, fun _ he => (List.not_mem_nil he).elim⟩)
  | cons e es ih =>
    obtain ⟨k, t, x, xs, rfl, hk, hh, hv, r'⟩ := r.cons_i
    obtain ⟨kvs, hq0⟩ := ih r'
    have hi : (intKind prog w).is k e.key = true := hk ▸ intKind_is prog w k t
    refine ⟨(k, e.val) :: kvs, .cons hi rfl hq0.1, congrArg (k :: ·) hq0.2.1, .cons hv hq0.2.2.1, fun e' he => ?_⟩
    rcases List.mem_cons.mp he with rfl | he
    · exact ⟨k, hi, hh⟩
    · exact hq0.2.2.2 e' he
theorem dictOf_of {prog : Program} {w : World} {h : Heap} {D : Addr → Prop} {a : Addr} {es : Array DictEntry} {n : Nat} {xs : List (Int × V)} (ho : h.get? a = some (dictObj es n)) (hn : (xs.map (·.1)).Nodup)
    (r : RealD h D es.toList xs) : ∃ kvs : List (Int × Value), h.DictOf (intKind prog w) a kvs ∧ kvs.map (·.1) = xs.map (·.1) ∧ Reals h D (kvs.map (·.2)) (xs.map (·.2)) := by
  refine Exists.elim (RealD.pairs (prog := prog) (w := w) r) ?_; rintro kvs hq0
  exact ⟨kvs, ⟨_, es, n, ho, ⟨rfl, rfl, rfl⟩, rfl, fun e he => hq0.2.2.2 e (Array.mem_toList_iff.mpr he), hq0.1, (hq0.2.1 ▸ hn)⟩, hq0.2.1, hq0.2.2.1⟩
theorem valueAt_of {h : Heap} {D : Addr → Prop} {kvs : List (Int × Value)} {xs : List (Int × V)} (e : kvs.map (·.1) = xs.map (·.1)) (r : Reals h D (kvs.map (·.2)) (xs.map (·.2))) (k : Int) :
    (valueAt kvs k = none ∧ lookD k xs = none) ∨ ∃ v x, valueAt kvs k = some v ∧ lookD k xs = some x ∧ Real h D v x := by
  induction kvs generalizing xs with
  | nil =>
    cases xs with
    | nil => exact .inl ⟨rfl, rfl⟩
    | cons _ _ => exact nomatch e
  | cons a kvs ih =>
    cases xs with
    | nil => exact nomatch e
    | cons b xs =>
      skip
      obtain ⟨j', x⟩ := b
      obtain ⟨e1, e2⟩ := List.cons.inj e
      have e1 : a.1 = j' := e1
      subst e1
      obtain ⟨v', ws, e3, r1, r2⟩ := r.cons_i
      obtain ⟨rfl, rfl⟩ := List.cons.inj e3
      by_cases q : a.1 = k
      · exact .inr ⟨a.2, x, by simp [valueAt, q], by simp [lookD, q], r1⟩
      · have := ih e2 r2
        simpa [valueAt, lookD, q] using this
end
end Mine
end

section

open PySem PyProof.Rows
namespace Mine
section
variable {C : Cx} {ls : Ls} {σ : View} {s : Shared} {a b : Value} {x y d : V}

/-! arithmetic -/
theorem mulFits_ok {i j : Int} (h : mulFits i j = true) : IntMulOk i j := by
  unfold mulFits at h; skip; intro hc; rw [hc] at h; exact ff h

theorem strOk_append {x y : Str} (hx : PyData.strOk x = true) (hy : PyData.strOk y = true) : PyData.strOk (x ++ y) = true := by
  unfold PyData.strOk at *
  have e : (x ++ y).cps = x.cps ++ y.cps := Str.cps_append x y
  refine (Eq.symm e) ▸ ?_; refine (Eq.symm Array.all_append) ▸ ?_; refine (Eq.symm hx) ▸ ?_; refine (Eq.symm hy) ▸ ?_; rfl

theorem g_addL (G : Good C σ ls s) (ra : Real s.heap (C.D σ) a x) (rb : Real s.heap (C.D σ) b y) (h : addL σ x y = some d) : Gives C ls (binaryOp .Add a b) d σ s := by
  refine Exists.elim (Option.bind_eq_some_iff.mp h) ?_; rintro xs hq1
  obtain ⟨ys, hq0⟩ := Option.bind_eq_some_iff.mp hq1.2
  obtain ⟨hz, rfl⟩ := ite_some hq0.2
  obtain ⟨a', vs, n, rfl, ho, hzv, rs⟩ := lst_at G ra hq1.1
  obtain ⟨b', ws, m, rfl, hb, hzw, rw'⟩ := lst_at G rb hq0.1
  have hsz : vs.size + ws.size ≤ 2 ^ 24 := by
    have e1 : vs.size = xs.length := rs.length
    have e2 : ws.size = ys.length := rw'.length
    exact e1 ▸ e2 ▸ hz
  have r := Reals.append rs rw'
  rw [← Array.toList_append] at r
  exact Gives.new G (new_lst G (by rw [Array.size_append]; exact hsz) r) (P.add_list ho hb ⟨rfl, s.toks, rfl⟩ ((hsz)))
theorem g_addT (G : Good C σ ls s) {xs ys : List V} (ra : Real s.heap (C.D σ) a (.tup xs)) (rb : Real s.heap (C.D σ) b (.tup ys)) (hz : xs.length + ys.length ≤ big) : Gives C ls (binaryOp .Add a b) (.tup (xs ++ ys)) σ s := by
  obtain ⟨a', vs, n, rfl, ho, hzv, hd1, rs⟩ := ra.tup_i
  obtain ⟨b', ws, m, rfl, hb, hzw, hd2, rw'⟩ := rb.tup_i
  have hsz : vs.size + ws.size ≤ 2 ^ 24 := by
    have e1 : vs.size = xs.length := rs.length
    have e2 : ws.size = ys.length := rw'.length
    exact e1 ▸ e2 ▸ hz
  have r := Reals.append rs rw'
  by_cases hv : vs.isEmpty = true
  · obtain rfl : vs = #[] := Array.isEmpty_iff.mp hv
    have : xs = [] := List.length_eq_zero_iff.mp rs.length.symm
    subst this
    exact Gives.quiet G (concat_meets ⟨_, ho, rfl⟩ ⟨_, hb, rfl⟩ noFill_tuple_add seq_tuple_add F.slot_tuple_add F.entry_tuple_add (F.args_tuple_add_2 _ _) (tuple_addW0 a' b' #[] ws n m none none #[] #[] rfl) ⟨ho, hb, ⟨s.toks, rfl⟩, .tup hb hzw hd2 rw'⟩)
  · by_cases hw : ws.isEmpty = true
    · obtain rfl : ws = #[] := Array.isEmpty_iff.mp hw
      have : ys = [] := List.length_eq_zero_iff.mp rw'.length.symm
      subst this
      exact Gives.quiet G (concat_meets ⟨_, ho, rfl⟩ ⟨_, hb, rfl⟩ noFill_tuple_add seq_tuple_add F.slot_tuple_add F.entry_tuple_add (F.args_tuple_add_2 _ _) (tuple_addW1 a' b' vs #[] n m none none #[] #[] hv rfl) ⟨ho, hb, ⟨s.toks, rfl⟩, by rw [List.append_nil]; exact .tup ho hzv hd1 rs⟩)
    · rw [← Array.toList_append] at r
      exact Gives.new G (new_tup G (by rw [Array.size_append]; exact hsz) r) (P.add_tuple ho hb hv hw ⟨rfl, s.toks, rfl⟩ ((hsz)))
theorem g_add (G : Good C σ ls s) (ra : Real s.heap (C.D σ) a x) (rb : Real s.heap (C.D σ) b y) (h : addV σ x y = some d) : Gives C ls (binaryOp .Add a b) d σ s := by
  cases x with
  | int i =>
    refine Exists.elim (int1_some h) fun j hx => ?_; obtain ⟨rfl, h⟩ := hx
    obtain rfl := Option.some.inj h
    obtain ⟨t, rfl⟩ := ra.int_i
    obtain ⟨u, rfl⟩ := rb.int_i
    exact Gives.quiet G (wpAny_add_int ⟨⟨_, rfl⟩, .int _ _⟩)
  | str i =>
    refine Exists.elim (str1_some h) fun j hx => ?_; obtain ⟨rfl, h⟩ := hx
    obtain ⟨hz, rfl⟩ := ite_some h
    obtain ⟨t, rfl, hq1⟩ := ra.str_i
    refine Exists.elim rb.str_i fun u hx => ?_; obtain ⟨rfl, hq0⟩ := hx
    refine Gives.quiet G (SB.add (fun t' k => ⟨⟨k, rfl⟩, .str _ _ (strOk_append hq1.1 hq0.1) ?_⟩) ((hz)))
    simp only [Str.cps_append, Array.size_append]; exact hz
  | tup xs =>
    refine Exists.elim (tup1_some h) fun ys hx => ?_; obtain ⟨rfl, h⟩ := hx
    obtain ⟨hz, rfl⟩ := ite_some h
    exact g_addT G ra rb hz
  | _ => exact g_addL G ra rb h

theorem g_sub (G : Good C σ ls s) {i j : Int} (ra : Real s.heap (C.D σ) a (.int i)) (rb : Real s.heap (C.D σ) b (.int j)) : Gives C ls (binaryOp .Sub a b) (.int (i - j)) σ s := by
  refine Exists.elim ra.int_i fun _ hx => ?_; obtain rfl := hx; obtain ⟨_, rfl⟩ := rb.int_i; exact Gives.quiet G (sub_int ⟨⟨_, rfl⟩, .int _ _⟩)
theorem g_div (G : Good C σ ls s) {i j : Int} (ra : Real s.heap (C.D σ) a (.int i)) (rb : Real s.heap (C.D σ) b (.int j)) (h0 : 0 < j) (h1 : j < 2 ^ 29) : Gives C ls (binaryOp .FloorDiv a b) (.int (i / j)) σ s := by
  cases ra; cases rb
  have e : i.fdiv j = i / j := Int.fdiv_eq_ediv_of_nonneg _ (by (first | lia | omega))
  refine Gives.quiet G (AutoIntOps.floordiv_1 (by simp; (first | lia | omega)) (by rw [PyProof.noPylong_small (by (first | lia | omega))]; exact Bool.false_ne_true) ?_)
  exact ⟨⟨_, rfl⟩, (e ▸ (.int _ _))⟩
theorem g_mod (G : Good C σ ls s) {i j : Int} (ra : Real s.heap (C.D σ) a (.int i)) (rb : Real s.heap (C.D σ) b (.int j)) (h0 : 0 < j) : Gives C ls (binaryOp .Mod a b) (.int (i % j)) σ s := by
  refine Exists.elim ra.int_i fun _ hx => ?_; obtain rfl := hx; obtain ⟨_, rfl⟩ := rb.int_i
  have e : i.fmod j = i % j := Int.fmod_eq_emod_of_nonneg _ (by solve_by_elim (maxDepth := 3) [Int.le_of_lt, Int.le_trans, Int.lt_of_lt_of_le, Int.lt_of_le_of_lt, i1, i2, i5, i6])
  refine Gives.quiet G (mod_int' (by lia) ?_)
  exact ⟨⟨_, rfl⟩, (e ▸ (.int _ _))⟩
theorem g_pow (G : Good C σ ls s) {i j : Int} (ra : Real s.heap (C.D σ) a (.int i)) (rb : Real s.heap (C.D σ) b (.int j)) (h0 : 1 < i) (h1 : i ≤ 10) (h2 : 0 < j) (h3 : j ≤ 100) : Gives C ls (binaryOp .Pow a b) (.int (i ^ j.toNat)) σ s := by
  refine Exists.elim ra.int_i fun _ hx => ?_; obtain rfl := hx; obtain ⟨_, rfl⟩ := rb.int_i
  have hb : Builtin.Int.intBits i ≤ 64 := intBits_le_64 (by lia) (by lia)
  refine Gives.quiet G (AutoIntOps.pow_4 (by solve_by_elim (maxDepth := 3) [Int.le_of_lt, Int.le_trans, Int.lt_of_lt_of_le, Int.lt_of_le_of_lt, i1, i2, i5, i6]) (by simp; lia) (by simp; lia) (by simp; lia) ?_ ?_)
  · delta Builtin.Int.intTooBig bitsLine
    have : ((Builtin.Int.intBits i : Nat) : Int) * j ≤ 64 * 100 := by
      have h5 : ((Builtin.Int.intBits i : Nat) : Int) ≤ 64 := by lia
      exact Int.mul_le_mul h5 h3 (by solve_by_elim (maxDepth := 3) [Int.le_of_lt, Int.le_trans, Int.lt_of_lt_of_le, Int.lt_of_le_of_lt, i1, i2, i5, i6]) (by solve_by_elim (maxDepth := 2) [i1, i2, i3, i4, i5, i6, i7, i8])
    skip; lia
  · exact ⟨⟨_, rfl⟩, .int _ _⟩
theorem g_neg (G : Good C σ ls s) {i : Int} (ra : Real s.heap (C.D σ) a (.int i)) : Gives C ls (unaryOp .USub a) (.int (-i)) σ s := by
  refine Exists.elim ra.int_i fun _ hx => ?_; obtain rfl := hx; exact Gives.quiet G (neg_int ⟨⟨_, rfl⟩, .int _ _⟩)

theorem strOk_rep {x : Str} (hx : PyData.strOk x = true) (n : Nat) : PyData.strOk ⟨(List.replicate n x.cps.toList).flatten.toArray⟩ = true := by
  unfold PyData.strOk at *
  simp only [List.all_toArray, List.all_flatten, List.all_replicate] at *
  simp at *
  exact .inr hx

/-! comparisons -/
theorem is_fact {r : Bool} (ra : Real s.heap (C.D σ) a x) (rb : Real s.heap (C.D σ) b y) (h : sameSingle x y = some r) : plainIs a b = true ∧ (a == b) = r := by
  refine Exists.elim (Option.bind_eq_some_iff.mp h) fun z hx => ?_; obtain ⟨hz, h⟩ := hx
  cases rb with
  | none =>
    cases hz
    cases ra with
    | _ => cases h; exact ⟨rfl, rfl⟩
  | bool q =>
    cases hz
    cases ra with
    | bool p => cases h; cases p <;> cases q <;> exact ⟨rfl, rfl⟩
    | _ => cases h; exact ⟨rfl, rfl⟩
  | _ => exact nn hz
theorem g_is (G : Good C σ ls s) {r : Bool} (ra : Real s.heap (C.D σ) a x) (rb : Real s.heap (C.D σ) b y) (h : sameSingle x y = some r) : Gives C ls (compareOp .Is a b) (.bool r) σ s :=
  Gives.quiet G (wpAny_is_plain (is_fact ra rb h).1 ⟨⟨s.toks, rfl⟩, (is_fact ra rb h).2 ▸ .bool _⟩)
theorem g_isNot (G : Good C σ ls s) {r : Bool} (ra : Real s.heap (C.D σ) a x) (rb : Real s.heap (C.D σ) b y) (h : sameSingle x y = some r) : Gives C ls (compareOp .IsNot a b) (.bool (!r)) σ s :=
  Gives.quiet G (wpAny_isNot_plain (is_fact ra rb h).1 ⟨⟨s.toks, rfl⟩, (is_fact ra rb h).2 ▸ .bool _⟩)
end
end Mine
end

section

open PySem PyProof.Rows
namespace Mine
section
variable {C : Cx} {ls : Ls} {σ : View} {s : Shared} {a b : Value} {x y d : V}

/-! equality of data -/
theorem mapM_cons_some {α β : Type} {f : α → Option β} {x : α} {xs : List α} {r : List β} (h : (x :: xs).mapM f = some r) : ∃ y ys, f x = some y ∧ xs.mapM f = some ys ∧ r = y :: ys := by
  rw [List.mapM_cons] at h
  refine Exists.elim (Option.bind_eq_some_iff.mp h) ?_; rintro y hq1
  obtain ⟨ys, hq0⟩ := Option.bind_eq_some_iff.mp hq1.2
  exact ⟨y, ys, hq1.1, hq0.1, (Option.some.inj hq0.2).symm⟩
inductive RdI (h : Heap) (v : Value) (d : PyData) (n : Nat) : Prop
  | mk (as : List Addr) : Reads h v d as → d.canLay0 = true → d.depth ≤ n → RdI h v d n
inductive RdsI (h : Heap) (vs : List Value) (ds : List PyData) (n : Nat) : Prop
  | mk (as : List Addr) : ReadsAll h vs ds as → PyData.canLayAll0 ds = true → PyData.depthAll ds ≤ n → RdsI h vs ds n
theorem leaf_reads {n : Nat} {v : Value} {d : PyData} (r : Real s.heap (C.D σ) v x) (h : leafD x = some d) : RdI s.heap v d n := by
  cases x with
  | none => obtain rfl := Option.some.inj h; obtain rfl := r.none_i; exact ⟨_, .none, rfl, Nat.zero_le _⟩
  | bool b => obtain rfl := Option.some.inj h; obtain rfl := r.bool_i; exact ⟨_, .bool _, rfl, Nat.zero_le _⟩
  | int i => obtain rfl := Option.some.inj h; refine Exists.elim r.int_i fun t hx => ?_; obtain rfl := hx; exact ⟨_, .int _ _, rfl, Nat.zero_le _⟩
  | str z => obtain rfl := Option.some.inj h; refine Exists.elim r.str_i fun t hx => ?_; obtain ⟨rfl, hq0⟩ := hx; exact ⟨_, .str _ _, hq0.1, Nat.zero_le _⟩
  | _ => exact nn h
theorem all_reads {n : Nat} (ih : ∀ {v : Value} {x : V} {d : PyData}, Real s.heap (C.D σ) v x → x.toD σ n = some d → RdI s.heap v d n) {vs : List Value} {xs : List V} {ds : List PyData} (r : Reals s.heap (C.D σ) vs xs) (h : xs.mapM (V.toD σ n) = some ds) : RdsI s.heap vs ds n := by
  induction xs generalizing vs ds with
  | nil => obtain rfl := r.nil_i; obtain rfl := Option.some.inj h; exact ⟨_, .nil, rfl, Nat.zero_le _⟩
  | cons x xs ih2 =>
    obtain ⟨v, ws, rfl, r1, r2⟩ := r.cons_i
    refine Exists.elim (mapM_cons_some h) fun y hx => ?_; obtain ⟨ys, h1, h2, rfl⟩ := hx
    obtain ⟨as, q1, q2, q3⟩ := ih r1 h1
    obtain ⟨bs, p1, p2, p3⟩ := ih2 r2 h2
    exact ⟨_, .cons q1 p1, Bool.and_eq_true_iff.mpr ⟨q2, p2⟩, Nat.max_le.mpr ⟨q3, p3⟩⟩
theorem toD_reads (G : Good C σ ls s) (n : Nat) {v : Value} {x : V} {d : PyData} (r : Real s.heap (C.D σ) v x) (h : x.toD σ n = some d) : RdI s.heap v d n := by
  induction n generalizing v x d with
  | zero => exact leaf_reads r h
  | succ n ih =>
    have lst : ∀ {xs : List V}, lstOf σ x = some xs → (xs.mapM (V.toD σ n)).map PyData.list = some d → RdI s.heap v d (n + 1) := by
      intro xs hx h
      refine Exists.elim (Option.map_eq_some_iff.mp h) fun ds hx => ?_; obtain ⟨h1, rfl⟩ := hx
      obtain ⟨l, vs, m, rfl, ho, _, rs⟩ := lst_at G r hx
      obtain ⟨as, q1, q2, q3⟩ := all_reads ih rs h1
      exact ⟨_, .list ho rfl rfl q1, q2, Nat.succ_le_succ q3⟩
    cases x with
    | tup xs =>
      obtain ⟨ds, h1, rfl⟩ := Option.map_eq_some_iff.mp h
      obtain ⟨l, vs, m, rfl, ho, _, _, rs⟩ := r.tup_i
      obtain ⟨as, q1, q2, q3⟩ := all_reads ih rs h1
      exact ⟨_, .tuple ho rfl rfl q1, q2, Nat.succ_le_succ q3⟩
    | lst xs => exact lst rfl h
    | ref a => obtain ⟨xs, hq0⟩ := Option.bind_eq_some_iff.mp h; exact lst hq0.1 hq0.2
    | _ => exact leaf_reads r h

theorem eqD_at (R : Rm C) (G : Good C σ ls s) {r : Bool} {v w : Value} (rv : Real s.heap (C.D σ) v x) (rw' : Real s.heap (C.D σ) w y) (h : eqD σ x y = some r) : SeqAt.EqAt C.A.in1 s v w r := by
  refine Exists.elim (Option.bind_eq_some_iff.mp h) ?_; rintro p hq0
  obtain ⟨q, hq, rfl⟩ := Option.map_eq_some_iff.mp hq0.2
  obtain ⟨as, h1, h2, h3⟩ := toD_reads G 20 rv hq0.1
  obtain ⟨bs, k1, k2, k3⟩ := toD_reads G 20 rw' hq
  refine SeqAt.eqAt_reads p q C.A.in1 s v w as bs h1 k1 h2 k2 ?_
  have := R.units
  have : min p.depth q.depth ≤ 20 := Nat.le_trans (Nat.min_le_left _ _) h3
  show C.A.units + 1 + _ < _; (first | lia | omega)

theorem eqAll_hits (R : Rm C) (G : Good C σ ls s) {kb : List (Int × Value)} {yb : List (Int × V)} (e2 : kb.map (·.1) = yb.map (·.1)) (r2 : Reals s.heap (C.D σ) (kb.map (·.2)) (yb.map (·.2)))
    {ka : List (Int × Value)} {xa : List (Int × V)} {r : Bool} (e : ka.map (·.1) = xa.map (·.1)) (rr : Reals s.heap (C.D σ) (ka.map (·.2)) (xa.map (·.2))) (h : eqAll σ yb xa = some r) : PySem.W.KeqHits C.A.in1 s kb ka r := by
  induction xa generalizing ka r with
  | nil =>
    obtain rfl := List.map_eq_nil_iff.mp e
    obtain rfl := Option.some.inj h
    exact .nil
  | cons b xa ih =>
    cases ka with
    | nil => exact (by cases e)
    | cons a ka =>
      skip
      obtain ⟨k', x⟩ := b
      obtain ⟨e1, e4⟩ := List.cons.inj e
      have e1 : a.1 = k' := e1
      subst e1
      obtain ⟨v', ws, e3, r1, r3⟩ := rr.cons_i
      obtain ⟨rfl, rfl⟩ := List.cons.inj e3
      have h : (match lookD a.1 yb with | none => some false | some w => (eqD σ x w).bind fun e => (eqAll σ yb xa).map fun t => e && t) = some r := h
      rcases valueAt_of e2 r2 a.1 with ⟨h1, h1'⟩ | ⟨w, y, h1, h1', hr⟩
      · simp only [h1'] at h; obtain rfl := Option.some.inj h; exact .miss h1
      · replace h := h1' ▸ h
        obtain ⟨q, hq0⟩ := Option.bind_eq_some_iff.mp h
        obtain ⟨t, ht, rfl⟩ := Option.map_eq_some_iff.mp hq0.2
        exact .hit h1 (eqD_at R G r1 hr hq0.1) (ih e4 r3 ht)

theorem sysMod {a : Addr} (h : 2 < a) : (a == sysModules) = false := by
  have : a ≠ sysModules := fun e => by rw [e] at h; exact absurd h (by decide)
  simpa using this

theorem g_eqB (R : Rm C) (G : Good C σ ls s) {r : Bool} (ra : Real s.heap (C.D σ) a x) (rb : Real s.heap (C.D σ) b y) (h : eqV σ x y = some r) :
    Gives C ls (compareOp .Eq a b) (.bool r) σ s ∧ Gives C ls (compareOp .NotEq a b) (.bool (!r)) σ s := by
  have hu := R.units
  have h : (match x.toD σ 20 with | some a => (y.toD σ 20).map (PyData.eqv a) | none => (dicOf σ x).bind fun a => (dicOf σ y).bind fun b => eqDict σ a b) = some r := h
  cases hp : x.toD σ 20 with
  | some p =>
    replace h := hp ▸ h
    obtain ⟨q, hq, rfl⟩ := Option.map_eq_some_iff.mp h
    obtain ⟨as, h1, h2, h3⟩ := toD_reads G 20 ra hp
    obtain ⟨bs, k1, k2, k3⟩ := toD_reads G 20 rb hq
    have hm : min p.depth q.depth ≤ 20 := Nat.le_trans (Nat.min_le_left _ _) h3
    exact ⟨Gives.quiet G (SeqAt.compareEq_reads h1 k1 h2 k2 (by (first | lia | omega)) ⟨⟨s.toks, rfl⟩, .bool _⟩), Gives.quiet G (SeqAt.compareNe_reads h1 k1 h2 k2 (by (first | lia | omega)) ⟨⟨s.toks, rfl⟩, .bool _⟩)⟩
  | none =>
    replace h := hp ▸ h
    refine Exists.elim (Option.bind_eq_some_iff.mp h) fun xa hx => ?_; obtain ⟨ha, h⟩ := hx
    refine Exists.elim (Option.bind_eq_some_iff.mp h) fun xb hx => ?_; obtain ⟨hb, h⟩ := hx
    obtain ⟨a', es, n, rfl, ho, hz, hn, h2, rs⟩ := dic_at R.ok G ra ha
    obtain ⟨b', es', n', rfl, ho', hz', hn', h2', rs'⟩ := dic_at R.ok G rb hb
    obtain ⟨ka, hq1⟩ := dictOf_of (prog := C.W.prog) (w := C.W.w) ho hn rs
    refine Exists.elim (dictOf_of (prog := C.W.prog) (w := C.W.w) ho' hn' rs') ?_; rintro kb hq0
    have la : ka.length = xa.length := by have := congrArg List.length hq1.2.1; simp only [List.length_map, List.length_map] at this; exact this
    have lb : kb.length = xb.length := by have := congrArg List.length hq0.2.1; simp only [List.length_map, List.length_map] at this; exact this
    have hits : ka.length = kb.length → PySem.W.KeqHits C.A.in1 s kb ka r := fun q => by
      rw [eqDict, if_pos (la ▸ lb ▸ q)] at h
      exact eqAll_hits R G hq0.2.1 hq0.2.2 hq1.2.1 hq1.2.2 h
    have e : (ka.length == kb.length && r) = r := by
      by_cases q : ka.length = kb.length
      · rw [q, beq_self_eq_true, Bool.true_and]
      · rw [eqDict, if_neg (la ▸ lb ▸ q)] at h
        rw [← Option.some.inj h, Bool.and_false]
    exact ⟨Gives.quiet G (PySem.W.keq_eq (sysMod h2) (sysMod h2') hq1.1 hq0.1 (by (first | lia | omega)) hits ⟨⟨s.toks, rfl⟩, ((Eq.symm e) ▸ (.bool _))⟩),
      Gives.quiet G (PySem.W.keq_ne (sysMod h2) (sysMod h2') hq1.1 hq0.1 (by (first | lia | omega)) hits ⟨⟨s.toks, rfl⟩, ((Eq.symm e) ▸ (.bool _))⟩)⟩

/-! order -/
theorem g_lt (G : Good C σ ls s) (ra : Real s.heap (C.D σ) a x) (rb : Real s.heap (C.D σ) b y) (h : ordV (fun a b => decide (a < b)) (fun a b => !strLe b a) [x, y] = some d) : Gives C ls (compareOp .Lt a b) d σ s := by
  cases x with
  | int i =>
    refine Exists.elim (int1_some h) fun j hx => ?_; obtain ⟨rfl, h⟩ := hx
    obtain rfl := Option.some.inj h
    obtain ⟨t, rfl⟩ := ra.int_i
    obtain ⟨u, rfl⟩ := rb.int_i
    exact Gives.quiet G (PyProof.Rows.lt_int ⟨⟨s.toks, rfl⟩, .bool _⟩)
  | str u =>
    refine Exists.elim (str1_some h) fun v hx => ?_; obtain ⟨rfl, h⟩ := hx
    obtain rfl := Option.some.inj h
    obtain ⟨t, rfl, hq1⟩ := ra.str_i
    refine Exists.elim rb.str_i fun w hx => ?_; obtain ⟨rfl, hq0⟩ := hx
    exact Gives.quiet G (PyProof.Rows.lt_str ⟨⟨s.toks, rfl⟩, by show Real _ _ _ (.bool (! (! _))); simp only [Bool.not_not]; exact .bool _⟩)
  | _ => exact nn h
theorem g_le (G : Good C σ ls s) (ra : Real s.heap (C.D σ) a x) (rb : Real s.heap (C.D σ) b y) (h : ordV (fun a b => decide (a ≤ b)) strLe [x, y] = some d) : Gives C ls (compareOp .LtE a b) d σ s := by
  cases x with
  | int i =>
    refine Exists.elim (int1_some h) fun j hx => ?_; obtain ⟨rfl, h⟩ := hx
    obtain rfl := Option.some.inj h
    obtain ⟨t, rfl⟩ := ra.int_i
    obtain ⟨u, rfl⟩ := rb.int_i
    exact Gives.quiet G (PyProof.Rows.le_int ⟨⟨s.toks, rfl⟩, .bool _⟩)
  | str u =>
    refine Exists.elim (str1_some h) fun v hx => ?_; obtain ⟨rfl, h⟩ := hx
    obtain rfl := Option.some.inj h
    obtain ⟨t, rfl, hq1⟩ := ra.str_i
    refine Exists.elim rb.str_i fun w hx => ?_; obtain ⟨rfl, hq0⟩ := hx
    exact Gives.quiet G (P.le_str ⟨⟨s.toks, rfl⟩, .bool _⟩)
  | _ => exact nn h
theorem g_gt (G : Good C σ ls s) {i j : Int} (ra : Real s.heap (C.D σ) a (.int i)) (rb : Real s.heap (C.D σ) b (.int j)) : Gives C ls (compareOp .Gt a b) (.bool (decide (j < i))) σ s := by
  refine Exists.elim ra.int_i fun t hx => ?_; obtain rfl := hx
  obtain ⟨u, rfl⟩ := rb.int_i
  exact Gives.quiet G (PyProof.Rows.gt_int ⟨⟨s.toks, rfl⟩, .bool _⟩)
theorem g_ge (G : Good C σ ls s) {i j : Int} (ra : Real s.heap (C.D σ) a (.int i)) (rb : Real s.heap (C.D σ) b (.int j)) : Gives C ls (compareOp .GtE a b) (.bool (decide (j ≤ i))) σ s := by
  refine Exists.elim ra.int_i fun t hx => ?_; obtain rfl := hx
  obtain ⟨u, rfl⟩ := rb.int_i
  exact Gives.quiet G (PyProof.Rows.ge_int ⟨⟨s.toks, rfl⟩, .bool _⟩)
end
end Mine
end

section

open PySem PyProof.Rows
namespace Mine
section
variable {C : Cx} {ls : Ls} {σ : View} {s : Shared} {a b : Value} {x y d : V}

theorem strOk_one {x : Str} {c : Nat} {i : Nat} (hx : PyData.strOk x = true) (hc : x.cps[i]? = some c) : PyData.strOk ⟨#[c]⟩ = true := by
  unfold PyData.strOk at *
  have := Array.all_eq_true.mp hx
  have hq0 := Array.getElem?_eq_some_iff.mp hc
  have h1 := this i hq0.1
  rw [hq0.2] at h1
  simpa using h1

theorem itemsOf_cases {xs : List V} (h : itemsOf σ x = some xs) : (∃ z, x = .str z ∧ xs = charsOf z) ∨ seqOf σ x = some xs ∨ ∃ es, dicOf σ x = some es ∧ xs = es.map fun p => V.int p.1 := by
  unfold itemsOf at h
  split at h
  · cases h; exact .inl ⟨_, rfl, rfl⟩
  · split at h
    · rename_i e; cases h; exact .inr (.inl e)
    · simp only [Option.map_eq_some_iff] at h
      obtain ⟨es, e, rfl⟩ := h
      exact .inr (.inr ⟨es, e, rfl⟩)

/-! length -/
theorem g_len (R : Rm C) (G : Good C σ ls s) {n : Nat} (ra : Real s.heap (C.D σ) a x) (h : lenOf σ x = some n) : Gives C ls (call (.builtin "len") [a]) (.int n) σ s := by
  unfold lenOf at h
  simp only [Option.map_eq_some_iff] at h
  obtain ⟨xs, hx, rfl⟩ := h
  rcases itemsOf_cases hx with ⟨z, rfl, rfl⟩ | hs | ⟨es, hd, rfl⟩
  · refine Exists.elim ra.str_i fun t hx => ?_; obtain ⟨rfl, hq1⟩ := hx
    have e : (charsOf z).length = z.length := by simp [charsOf, Str.length]
    have hz' : z.length ≤ 2 ^ 24 := hq1.2
    refine Gives.quiet G (P.len_str (by (first | lia | omega)) ⟨⟨_, rfl⟩, ?_⟩)
    exact e ▸ (.int _ _)
  · obtain ⟨a', vs, n, rfl, ho, hz, rs⟩ := seq_at G ra hs
    have el : vs.size = xs.length := by rw [← rs.length]; rfl
    rcases ho with ho | ho
    · exact Gives.quiet G (PyProof.Rows.len_list (isList_of ho) (by (first | lia | omega)) ⟨⟨_, rfl⟩, by rw [← el]; exact .int _ _⟩)
    · exact Gives.quiet G (P.len_tuple ho (by (first | lia | omega)) ⟨⟨_, rfl⟩, by rw [← el]; exact .int _ _⟩)
  · obtain ⟨a', ds, n, rfl, ho, hz, hn, h2, rs⟩ := dic_at R.ok G ra hd
    refine Exists.elim (dictOf_of (prog := C.W.prog) (w := C.W.w) ho hn rs) ?_; rintro kvs hq0
    have la : kvs.length = es.length := by have := congrArg List.length hq0.2.1; simpa using this
    have l2 : es.length = ds.size := by rw [← rs.length]; rfl
    exact Gives.quiet G (call_len_dict (sysMod h2) hq0.1 (by (first | lia | omega)) ⟨⟨_, rfl⟩, by rw [List.length_map, ← la]; exact .int _ _⟩)

/-! isinstance -/
noncomputable def SubF (t k : String) : Prop := isSubtype (.type k) (.type t) = pure (tyB t k)
noncomputable def types : List String := ["int", "bool", "str", "tuple", "list", "dict"]
noncomputable def kinds : List String := ["NoneType", "bool", "int", "str", "tuple", "list", "dict"]
theorem all_cons {P : String → Prop} {a : String} {l : List String} (h : P a) (k : ∀ x ∈ l, P x) : ∀ x ∈ a :: l, P x := fun x hx => (List.mem_cons.mp hx).elim (fun e => e ▸ h) (k x)
theorem all_nil {P : String → Prop} : ∀ x ∈ ([] : List String), P x := fun _ h => (List.not_mem_nil h).elim
theorem sub_int : ∀ k ∈ kinds, SubF "int" k := all_cons F.sub_NoneType_int (all_cons F.sub_bool_int (all_cons F.sub_int_int (all_cons F.sub_str_int (all_cons F.sub_tuple_int (all_cons F.sub_list_int (all_cons F.sub_dict_int all_nil))))))
theorem sub_bool : ∀ k ∈ kinds, SubF "bool" k := all_cons F.sub_NoneType_bool (all_cons F.sub_bool_bool (all_cons F.sub_int_bool (all_cons F.sub_str_bool (all_cons F.sub_tuple_bool (all_cons F.sub_list_bool (all_cons F.sub_dict_bool all_nil))))))
theorem sub_str : ∀ k ∈ kinds, SubF "str" k := all_cons F.sub_NoneType_str (all_cons F.sub_bool_str (all_cons F.sub_int_str (all_cons F.sub_str_str (all_cons F.sub_tuple_str (all_cons F.sub_list_str (all_cons F.sub_dict_str all_nil))))))
theorem sub_tuple : ∀ k ∈ kinds, SubF "tuple" k := all_cons F.sub_NoneType_tuple (all_cons F.sub_bool_tuple (all_cons F.sub_int_tuple (all_cons F.sub_str_tuple (all_cons F.sub_tuple_tuple (all_cons F.sub_list_tuple (all_cons F.sub_dict_tuple all_nil))))))
theorem sub_list : ∀ k ∈ kinds, SubF "list" k := all_cons F.sub_NoneType_list (all_cons F.sub_bool_list (all_cons F.sub_int_list (all_cons F.sub_str_list (all_cons F.sub_tuple_list (all_cons F.sub_list_list (all_cons F.sub_dict_list all_nil))))))
theorem sub_dict : ∀ k ∈ kinds, SubF "dict" k := all_cons F.sub_NoneType_dict (all_cons F.sub_bool_dict (all_cons F.sub_int_dict (all_cons F.sub_str_dict (all_cons F.sub_tuple_dict (all_cons F.sub_list_dict (all_cons F.sub_dict_dict all_nil))))))
theorem sub_tab : ∀ t ∈ types, ∀ k ∈ kinds, SubF t k := all_cons (P := fun t => ∀ k ∈ kinds, SubF t k) sub_int (all_cons sub_bool (all_cons sub_str (all_cons sub_tuple (all_cons sub_list (all_cons sub_dict all_nil)))))
theorem ty_tab : ∀ t ∈ types, typeOf (.type t) = pure (.type "type") := all_cons (P := fun t => typeOf (.type t) = pure (.type "type")) F.isi_meta_int (all_cons F.isi_meta_bool (all_cons F.isi_meta_str (all_cons F.isi_meta_tuple (all_cons F.isi_meta_list (all_cons F.isi_meta_dict all_nil)))))
theorem tyB_ne {t k : String} (h : tyB t k = false) : (Value.type k == Value.type t) = false := by
  refine beq_eq_false_iff_ne.mpr fun e => ?_
  cases e
  simp only [tyB, beq_self_eq_true, Bool.true_or] at h
  exact ff2 h
theorem isi_at (G : Good C σ ls s) {t k : String} (ht : t ∈ types) (hk : k ∈ kinds) (hT : s.TypeIs a k) (hf : tyB t k = false → wpAny (model C.W.prog C.W.w) C.A (call (.builtin "isinstance") [a, .type t]) (fun v s' => (∃ tk, s' = { s with toks := tk }) ∧ Real s.heap (C.D σ) v (.bool false)) (fun _ _ => False) s) :
    Gives C ls (call (.builtin "isinstance") [a, .type t]) (.bool (tyB t k)) σ s := by
  refine Gives.quiet G ?_
  have hs := sub_tab t ht k hk
  unfold SubF at hs
  cases e : tyB t k with
  | true => exact call_isinstance (isinstance_true (ty_tab t ht) (e ▸ hs)) ⟨hT, ⟨s.toks, rfl⟩, .bool _⟩
  | false => exact hf e
theorem g_isinst (G : Good C σ ls s) {t : String} {r : Bool} (ht : t ∈ types) (ra : Real s.heap (C.D σ) a x) (h : isTypeV σ t x = some r) :
    Gives C ls (call (.builtin "isinstance") [a, .type t]) (.bool r) σ s := by
  have hty := ty_tab t ht
  have hs : ∀ k ∈ kinds, tyB t k = false → isSubtype (.type k) (.type t) = pure false := fun k hk e => e ▸ sub_tab t ht k hk
  have hl : ∀ {l : Addr} {o : Obj}, a = .ref l → s.heap.get? l = some o → o.cls = .type "list" → Gives C ls (call (.builtin "isinstance") [a, .type t]) (.bool (tyB t "list")) σ s := by
    rintro l o rfl ho hc
    exact isi_at G ht (by decide) ⟨o, ho, hc⟩ fun e => call_isinstance (isinstance_false_list (tyB_ne e) hty (hs _ (by decide) e)) ⟨⟨o, ho, hc⟩, ⟨_, rfl⟩, .bool _⟩
  have hd : ∀ {l : Addr} {o : Obj}, a = .ref l → s.heap.get? l = some o → o.cls = .type "dict" → Gives C ls (call (.builtin "isinstance") [a, .type t]) (.bool (tyB t "dict")) σ s := by
    rintro l o rfl ho hc
    exact isi_at G ht (by decide) ⟨o, ho, hc⟩ fun e => call_isinstance (isinstance_false_dict (tyB_ne e) hty (hs _ (by decide) e)) ⟨⟨o, ho, hc⟩, ⟨_, rfl⟩, .bool _⟩
  refine Exists.elim (Option.map_eq_some_iff.mp h) fun k hx => ?_; obtain ⟨hk, rfl⟩ := hx
  cases x with
  | none =>
    obtain rfl := Option.some.inj hk
    obtain rfl := ra.none_i
    exact isi_at G ht (by decide) (typeIs_none _) fun e => call_isinstance (isinstance_false_none (tyB_ne e) hty (hs _ (by decide) e)) ⟨⟨_, rfl⟩, .bool _⟩
  | bool b =>
    obtain rfl := Option.some.inj hk
    obtain rfl := ra.bool_i
    exact isi_at G ht (by decide) rfl fun e => call_isinstance (isinstance_false_bool (tyB_ne e) hty (hs _ (by decide) e)) ⟨⟨_, rfl⟩, .bool _⟩
  | int i =>
    obtain rfl := Option.some.inj hk
    refine Exists.elim ra.int_i fun u hx => ?_; obtain rfl := hx
    exact isi_at G ht (by decide) (typeIs_int _ _ _) fun e => call_isinstance (isinstance_false_int (tyB_ne e) hty (hs _ (by decide) e)) ⟨⟨_, rfl⟩, .bool _⟩
  | str i =>
    obtain rfl := Option.some.inj hk
    refine Exists.elim ra.str_i fun u hx => ?_; obtain ⟨rfl, hq0⟩ := hx
    exact isi_at G ht (by decide) (typeIs_str _ _ _) fun e => call_isinstance (isinstance_false_str (tyB_ne e) hty (hs _ (by decide) e)) ⟨⟨_, rfl⟩, .bool _⟩
  | tup xs =>
    obtain rfl := Option.some.inj hk
    obtain ⟨l, vs, n, rfl, ho, _⟩ := ra.tup_i
    exact isi_at G ht (by decide) ⟨_, ho, rfl⟩ fun e => call_isinstance (isinstance_false_tuple (tyB_ne e) hty (hs _ (by decide) e)) ⟨⟨_, ho, rfl⟩, ⟨_, rfl⟩, .bool _⟩
  | lst xs =>
    obtain rfl := Option.some.inj hk
    obtain ⟨l, vs, n, e, ho, _⟩ := ra.lst_i
    exact hl e ho rfl
  | dct xs =>
    obtain rfl := Option.some.inj hk
    obtain ⟨l, vs, n, e, ho, _⟩ := ra.dct_i
    exact hd e ho rfl
  | ref l =>
    have hk : cellK (σ l) = some k := hk
    cases e : σ l with
    | none => rw [e] at hk; exact nn hk
    | some c =>
      rw [e] at hk
      cases c with
      | list ro xs =>
        obtain rfl := Option.some.inj hk
        obtain ⟨vs, n, ho, _⟩ := G.sim l _ e
        exact hl ra.ref_i ho rfl
      | dict ro xs =>
        obtain rfl := Option.some.inj hk
        obtain ⟨vs, n, ho, _⟩ := G.sim l _ e
        exact hd ra.ref_i ho rfl
end
end Mine
end

section

open PySem PyProof.Rows
namespace Mine

theorem idxOf_eq (i : Int) (n : Nat) : idxOf i n = seqIndex? i n := by
  unfold idxOf seqIndex?
  by_cases h : 0 ≤ i
  · have h' : ¬ i < 0 := by (first | lia | omega)
    simp only [h, h', if_true, if_false, decide_true, Bool.true_and]
    by_cases h2 : i < n
    · simp [h2]
    · simp [h2]
  · have h' : i < 0 := by (first | lia | omega)
    simp only [h, h', if_true, if_false]
    by_cases h2 : -(n : Int) ≤ i
    · have : 0 ≤ i + n := by (first | lia | omega)
      have h3 : i + n < n := by (first | lia | omega)
      simp [h2, this, h3]
    · have : ¬ 0 ≤ i + n := by (first | lia | omega)
      simp [h2, this]
theorem idxOf_cases {i : Int} {n j : Nat} (h : idxOf i n = some j) : (0 ≤ i ∧ i < n ∧ i.toNat = j) ∨ (i < 0 ∧ 0 ≤ i + n ∧ (i + n).toNat = j) := by
  unfold idxOf at h
  by_cases h0 : 0 ≤ i
  · rw [if_pos h0] at h
    by_cases h1 : i < n
    · rw [if_pos h1] at h; exact .inl ⟨h0, h1, Option.some.inj h⟩
    · rw [if_neg h1] at h; exact nn h
  · rw [if_neg h0] at h
    by_cases h1 : -(n : Int) ≤ i
    · rw [if_pos h1] at h; exact .inr ⟨Int.not_le.mp h0, by have := Int.add_le_add_right h1 (n : Int); rw [Int.add_left_neg] at this; exact this, Option.some.inj h⟩
    · rw [if_neg h1] at h; exact nn h
theorem idxOf_lt {i : Int} {n j : Nat} (h : idxOf i n = some j) : j < n ∧ -(n : Int) ≤ i ∧ i < n := by
  rcases idxOf_cases h with ⟨h0, h1, rfl⟩ | ⟨h0, h1, rfl⟩
  · exact ⟨(Int.toNat_lt h0).mpr h1, Int.le_trans (Int.neg_nonpos_of_nonneg (Int.natCast_nonneg n)) h0, h1⟩
  · have h2 : i + n < n := by have := Int.add_lt_add_right h0 (n : Int); simp only [Int.zero_add] at this; exact this
    refine ⟨(Int.toNat_lt h1).mpr h2, ?_, Int.lt_of_lt_of_le h0 (Int.natCast_nonneg n)⟩
    have := Int.add_le_add_right h1 (-(n : Int)); simp only [Int.zero_add, Int.add_neg_cancel_right] at this; exact this

section
variable {α β : Type}
theorem putD_keys_mem {k : Int} {v : α} : ∀ {l : List (Int × α)} {j : Int}, j ∈ (putD k v l).map (·.1) ↔ j = k ∨ j ∈ l.map (·.1)
  | [], j => by simp [putD]
  | (i, w) :: r, j => by
    have ih := putD_keys_mem (k := k) (v := v) (l := r) (j := j)
    simp only [putD]
    split
    · rename_i e; subst e; simp
    · simp only [List.map_cons, List.mem_cons, ih]
      constructor
      · rintro (h | h | h)
        · exact .inr (.inl h)
        · exact .inl h
        · exact .inr (.inr h)
      · rintro (h | h | h)
        · exact .inr (.inl h)
        · exact .inl h
        · exact .inr (.inr h)
theorem putD_length_le {k : Int} {v : α} : ∀ {l : List (Int × α)}, (putD k v l).length ≤ l.length + 1
  | [] => by simp [putD]
  | (i, w) :: r => by
    simp only [putD]
    split
    · simp
    · have := putD_length_le (k := k) (v := v) (l := r); simp; assumption
theorem dropD_length_le {k : Int} : ∀ {l : List (Int × α)}, (dropD k l).length ≤ l.length
  | [] => by simp [dropD]
  | (i, w) :: r => by
    simp only [dropD]
    split
    · simp
    · have := dropD_length_le (k := k) (l := r); simp; assumption
theorem dropD_none {k : Int} : ∀ {l : List (Int × α)}, lookD k l = none → dropD k l = l
  | [], _ => rfl
  | (i, w) :: r, h => by
    simp only [lookD] at h
    split at h
    · cases h
    · rename_i e; simp [dropD, e, dropD_none h]
end

theorem stored_eq (k : Int) (v : Value) : ∀ {l : List (Int × Value)}, (l.map (·.1)).Nodup → stored l k v = putD k v l
  | [], _ => rfl
  | (i, w) :: r, h => by
    simp only [List.map_cons, List.nodup_cons] at h
    have ih := stored_eq k v h.2
    unfold stored at *
    simp only [putD, List.any_cons, List.map_cons]
    by_cases e : i = k
    · subst e
      have : r.map (fun kv => if kv.1 = i then (kv.1, v) else kv) = r := by
        rw [List.map_congr_left (g := id) (fun kv hk => ?_)]
        · simp
        · have : kv.1 ≠ i := fun he => h.1 ((he ▸ (List.mem_map_of_mem hk)))
          simp [this]
      simp [this]
    · simp only [e, decide_false, Bool.false_or, if_false]
      simp only [← ih]
      split <;> rfl
theorem without_eq (k : Int) : ∀ {l : List (Int × Value)}, (l.map (·.1)).Nodup → without l k = dropD k l
  | [], _ => rfl
  | (i, w) :: r, h => by
    simp only [List.map_cons, List.nodup_cons] at h
    have ih := without_eq k h.2
    unfold without at *
    by_cases e : i = k
    · subst e
      have : r.filter (fun kv => !decide (kv.1 = i)) = r := by
        rw [List.filter_eq_self]
        intro kv hk
        have : kv.1 ≠ i := fun he => h.1 ((he ▸ (List.mem_map_of_mem hk)))
        simp [this]
      simp [dropD]; simpa using this
    · simp [dropD, e]; simpa using ih

/-- dicts as keys and values -/
noncomputable def Par (h : Heap) (D : Addr → Prop) (kvs : List (Int × Value)) (xs : List (Int × V)) : Prop := kvs.map (·.1) = xs.map (·.1) ∧ Reals h D (kvs.map (·.2)) (xs.map (·.2))
section
variable {h : Heap} {D : Addr → Prop}
theorem Par.length {kvs : List (Int × Value)} {xs : List (Int × V)} (p : Par h D kvs xs) : kvs.length = xs.length := by simpa using congrArg List.length p.1
theorem Par.ind {P : List (Int × Value) → List (Int × V) → Prop} (h0 : P [] []) (h1 : ∀ i w y kvs xs, Real h D w y → Par h D kvs xs → P kvs xs → P ((i, w) :: kvs) ((i, y) :: xs)) {kvs : List (Int × Value)} {xs : List (Int × V)} (p : Par h D kvs xs) : P kvs xs := by
  induction kvs generalizing xs with
  | nil => exact (List.map_eq_nil_iff.mp p.1.symm) ▸ h0
  | cons a kvs ih =>
    cases xs with
    | nil => exact nomatch p.1
    | cons b xs =>
      obtain ⟨i, w⟩ := a
      skip
      skip
      obtain ⟨e1, e2⟩ := List.cons.inj p.1
      have e1 : i = b.1 := e1
      subst e1
      obtain ⟨v, ws, e3, r1, r2⟩ := p.2.cons_i
      obtain ⟨rfl, rfl⟩ := List.cons.inj e3
      exact h1 _ _ _ _ _ r1 ⟨e2, r2⟩ (ih ⟨e2, r2⟩)
theorem Par.cons {i : Int} {w : Value} {y : V} {kvs : List (Int × Value)} {xs : List (Int × V)} (r : Real h D w y) (p : Par h D kvs xs) : Par h D ((i, w) :: kvs) ((i, y) :: xs) := ⟨congrArg (i :: ·) p.1, .cons r p.2⟩
theorem Par.put {k : Int} {v : Value} {x : V} (rv : Real h D v x) {kvs : List (Int × Value)} {xs : List (Int × V)} (p : Par h D kvs xs) : Par h D (putD k v kvs) (putD k x xs) := by
  refine p.ind (P := fun kvs xs => Par h D (putD k v kvs) (putD k x xs)) ⟨rfl, .cons rv .nil⟩ fun i w y kvs xs r p ih => ?_
  by_cases e : i = k
  · rw [putD, putD, if_pos e, if_pos e]; exact Par.cons rv p
  · rw [putD, putD, if_neg e, if_neg e]; exact Par.cons r ih
theorem Par.drop {k : Int} {kvs : List (Int × Value)} {xs : List (Int × V)} (p : Par h D kvs xs) : Par h D (dropD k kvs) (dropD k xs) := by
  refine p.ind (P := fun kvs xs => Par h D (dropD k kvs) (dropD k xs)) ⟨rfl, .nil⟩ fun i w y kvs xs r p ih => ?_
  by_cases e : i = k
  · rw [dropD, dropD, if_pos e, if_pos e]; exact p
  · rw [dropD, dropD, if_neg e, if_neg e]; exact Par.cons r ih
theorem Par.realD {prog : Program} {w : World} {es : List DictEntry} {kvs : List (Int × Value)} {xs : List (Int × V)} (hp : Pairs (intKind prog w) es kvs) (hk : ∀ e ∈ es, ∃ k, (intKind prog w).is k e.key = true ∧ e.hash = (intKind prog w).hash k) (p : Par h D kvs xs) : RealD h D es xs := by
  refine p.ind (P := fun kvs xs => ∀ es, Pairs (intKind prog w) es kvs → (∀ e ∈ es, ∃ k, (intKind prog w).is k e.key = true ∧ e.hash = (intKind prog w).hash k) → RealD h D es xs) ?_ ?_ es hp hk
  · intro es hp _
    cases hp
    exact .nil
  · intro i v y kvs xs r p ih es hp hk
    cases hp with
    | cons h1 h2 h3 =>
      refine Exists.elim (Value.isInt_shape h1) ?_; rintro t ht
      refine Exists.elim (hk _ (.head _)) ?_; rintro k' hq0
      have : k' = i := (intKind prog w).inj _ _ _ hq0.1 h1
      subst this
      exact .cons ht hq0.2 ((h2 ▸ r)) (ih _ h3 fun e' he => hk e' (.tail _ he))
end

theorem dictObj_of {prog : Program} {w : World} {h : Heap} {D : Addr → Prop} {a : Addr} {kvs : List (Int × Value)} {xs : List (Int × V)} (hd : h.DictOf (intKind prog w) a kvs) (p : Par h D kvs xs) :
    ∃ es n, h.get? a = some (dictObj es n) ∧ es.size = xs.length ∧ (xs.map (·.1)).Nodup ∧ RealD h D es.toList xs := by
  obtain ⟨⟨c, dd, dat, sl⟩, es, ep, ho, ⟨hc1, hc2, hc3⟩, hdat, hq0⟩ := hd
  simp only at hc1 hc2 hc3 hdat
  subst hc1 hc2 hc3 hdat
  refine ⟨es, ep, ho, ?_, (p.1 ▸ hq0.2.2), Par.realD hq0.2.1 (fun e he => hq0.1 e (Array.mem_toList_iff.mp he)) p⟩
  have := hq0.2.1.length
  simp only [p.length] at this
  simpa using this
end Mine
end

section

open PySem PyProof.Rows
namespace Mine
section
variable {C : Cx} {ls : Ls} {σ : View} {s : Shared} {a b : Value} {x y d : V}

theorem leaves_keep {h h' : Heap} {D : Addr → Prop} (k : ∀ b o, h.get? b = some o → h'.get? b = some o) : Leaves h D h' D := fun b o e hd => ⟨k b o e, hd⟩

theorem Step.grownUpd {own : Addr → Prop} {h h' : Heap} {σ : View} {a : Addr} {c : Cell} (k : ∀ b o, h.get? b = some o → h'.get? b = some o) (hz : h.objs.size ≤ h'.objs.size) (ha : h.objs.size ≤ a) : Step own h σ h' (σ.upd a c) :=
  ⟨fun b o e _ _ => k b o e, hz, fun b h1 h2 => by
    by_cases q : b = a
    · simp only [q]; exact ha
    · rw [upd_ne q] at h1; exact absurd h2 h1, fun b c' hb e _ => .inl (by rw [upd_ne (Nat.ne_of_lt (Nat.lt_of_lt_of_le hb ha))]; exact e)⟩
theorem Good.grownUpd {h' : Heap} {a : Addr} {c : Cell} {tk : Nat} (G : Good C σ ls s) (k : ∀ b o, s.heap.get? b = some o → h'.get? b = some o) (hz : s.heap.objs.size ≤ h'.objs.size) (ha : s.heap.objs.size ≤ a)
    (hc : CellAt h' (C.D (σ.upd a c)) a c) : Good C (σ.upd a c) ls { s with heap := h', toks := tk } := by
  have S := Step.grownUpd (own := C.own) (σ := σ) (c := c) k hz ha
  refine G.change S (fun b _ o e => k b o e) (fun b h => ?_) (fun b h => ?_) fun b c' e => ?_
  · by_cases q : b = a
    · simp only [q]; exact Nat.le_trans G.larger ha
    · rw [upd_ne q] at h; exact G.fresh b (.inl h)
  · have : b ≠ a := Nat.ne_of_lt (Nat.lt_of_lt_of_le (G.toGround.lt (.inr h)) ha)
    exact (upd_ne this) ▸ (G.apart b h)
  · by_cases q : b = a
    · subst q; rw [upd_self] at e; cases e; exact hc
    · rw [upd_ne q] at e
      exact (G.sim b c' e).leaves (G.leaves S) fun o' e' => k b o' e'
theorem Good.noView (G : Good C σ ls s) {a : Addr} (h : s.heap.objs.size ≤ a) : σ a = none := by
  cases e : σ a with
  | none => rfl
  | some c => exact absurd (G.toGround.lt (.inl (not_some e))) (Nat.not_lt.mpr h)
/-- a new object that the view holds from now on -/
theorem TrE.newCell {t : Sem Value} {Q : Post} {c : Cell} (G : Good C σ ls s)
    (h : wpAny (model C.W.prog C.W.w) C.A t (fun v s' => ∃ a h' tk, v = .ref a ∧ s' = { s with heap := h', toks := tk } ∧ (∀ b o, s.heap.get? b = some o → h'.get? b = some o) ∧ s.heap.objs.size ≤ a ∧
      CellAt h' (C.D (σ.upd a c)) a c) (fun _ _ => False) s)
    (q : ∀ a, σ a = none → Q (.ref a) (σ.upd a c)) : TrE C ls t (RV C Q) σ s := by
  refine wpAny_mono (wpAny_size h) (fun v s' hh => ?_) fun _ _ x => x.2
  obtain ⟨hz, a, h', tk, rfl, rfl, hq0⟩ := hh
  exact ⟨_, G.grownUpd hq0.1 hz hq0.2.1 hq0.2.2, Step.grownUpd hq0.1 hz hq0.2.1, .ref a, .ref a, q a (G.noView hq0.2.1)⟩

theorem leaves_upd (_G : Good C σ ls s) {h' : Heap} {a : Addr} {c : Cell} (k : ∀ b o, s.heap.get? b = some o → h'.get? b = some o) (ha : s.heap.objs.size ≤ a) : Leaves s.heap (C.D σ) h' (C.D (σ.upd a c)) := fun b o e hd => by
  refine ⟨k b o e, ?_⟩
  rintro (h | h)
  · have : b ≠ a := Nat.ne_of_lt (Nat.lt_of_lt_of_le (Heap.lt_size e) ha)
    rw [upd_ne this] at h; exact hd (.inl h)
  · exact hd (.inr h)

/-! membership -/
theorem ints?_map {xs : List V} {ks : List Int} (h : ints? xs = some ks) : xs = ks.map .int := by
  induction xs generalizing ks with
  | nil => replace h := Option.some.inj h; subst h; rfl
  | cons x xs ih =>
    cases x <;> simp [ints?] at h
    obtain ⟨k, hk, rfl⟩ := h
    simp [ih hk]
theorem strs?_map {xs : List V} {ks : List Str} (h : strs? xs = some ks) : xs = ks.map .str := by
  induction xs generalizing ks with
  | nil => replace h := Option.some.inj h; subst h; rfl
  | cons x xs ih =>
    cases x <;> simp [strs?] at h
    obtain ⟨k, hk, rfl⟩ := h
    simp [ih hk]
theorem g_inD (R : Rm C) (G : Good C σ ls s) {k : Int} {es : List (Int × V)} (ra : Real s.heap (C.D σ) a (.int k)) (rb : Real s.heap (C.D σ) b y) (hd : dicOf σ y = some es) :
    Gives C ls (compareOp .In a b) (.bool (lookD k es).isSome) σ s ∧ Gives C ls (compareOp .NotIn a b) (.bool (!(lookD k es).isSome)) σ s := by
  refine Exists.elim ra.int_i fun t hx => ?_; obtain rfl := hx
  obtain ⟨a', ds, n, rfl, ho, hz, hn, h2, rs⟩ := dic_at R.ok G rb hd
  obtain ⟨kvs, hq0⟩ := dictOf_of (prog := C.W.prog) (w := C.W.w) ho hn rs
  have e : (valueAt kvs k).isSome = (lookD k es).isSome := by
    rcases valueAt_of hq0.2.1 hq0.2.2 k with ⟨h1, h2⟩ | ⟨v, x, h1, h2, _⟩ <;> rw [h1, h2] <;> rfl
  exact ⟨Gives.quiet G (wpAny_in_of (intKind_is _ _ k t) (sysMod h2) hq0.1.mapOf ⟨⟨_, rfl⟩, (e ▸ (.bool _))⟩),
    Gives.quiet G (wpAny_notIn_of (intKind_is _ _ k t) (sysMod h2) hq0.1.mapOf ⟨⟨_, rfl⟩, (e ▸ (.bool _))⟩)⟩
noncomputable def strEq (k : Str) : Value → Bool
  | .str i _ => i == k
  | _ => false
theorem any_strEq {h : Heap} {D : Addr → Prop} {k : Str} {ks : List Str} {vs : List Value} (rs : Reals h D vs (ks.map .str)) : vs.any (strEq k) = ks.contains k := by
  induction ks generalizing vs with
  | nil => exact rs.nil_i ▸ rfl
  | cons i ks ih =>
    obtain ⟨v, ws, rfl, r1, r2⟩ := rs.cons_i
    refine Exists.elim r1.str_i fun u hx => ?_; obtain ⟨rfl, hq0⟩ := hx
    simp only [List.any_cons, ih r2, List.contains_cons]
    exact congrArg (· || ks.contains k) (Bool.eq_iff_iff.mpr ⟨fun h => beq_iff_eq.mpr (beq_iff_eq.mp h).symm, fun h => beq_iff_eq.mpr (beq_iff_eq.mp h).symm⟩)
theorem g_inT (R : Rm C) (G : Good C σ ls s) {k : Str} {xs : List V} {ks : List Str} (ra : Real s.heap (C.D σ) a (.str k)) (rb : Real s.heap (C.D σ) b (.tup xs)) (hk : strs? xs = some ks) :
    Gives C ls (compareOp .In a b) (.bool (ks.contains k)) σ s ∧ Gives C ls (compareOp .NotIn a b) (.bool (!ks.contains k)) σ s := by
  have hx := strs?_map hk
  subst hx
  obtain ⟨t', vs, n, rfl, ho, hz, hd, rs⟩ := rb.tup_i
  have mem : ∀ v, v ∈ vs → SeqAt.EqAt C.A.in1 s v a (strEq k v) := by
    intro v hv
    refine Exists.elim (List.mem_iff_getElem?.mp (Array.mem_toList_iff.mpr hv)) ?_; rintro i hi
    refine Exists.elim (rs.get' hi) fun w hx => ?_; obtain ⟨hw, r⟩ := hx
    refine Exists.elim (List.mem_map.mp (List.mem_iff_getElem?.mpr ⟨i, hw⟩)) fun z hx => ?_; obtain ⟨_, rfl⟩ := hx
    have := eqD_at R G r ra (show eqD σ (.str z) (.str k) = some (z == k) from rfl)
    refine Exists.elim r.str_i fun u hx => ?_; obtain ⟨rfl, hq0⟩ := hx
    exact this
  have e : vs.any (strEq k) = ks.contains k := (Array.any_toList ▸ (any_strEq rs))
  exact ⟨Gives.quiet G (SeqAt.in_tupleAt (strEq k) (isTup_of ho) mem ⟨⟨s.toks, rfl⟩, ((Eq.symm e) ▸ (.bool _))⟩),
    Gives.quiet G (SeqAt.notIn_tupleAt (strEq k) (isTup_of ho) mem ⟨⟨s.toks, rfl⟩, ((Eq.symm e) ▸ (.bool _))⟩)⟩
theorem g_inB (R : Rm C) (G : Good C σ ls s) {r : Bool} (ra : Real s.heap (C.D σ) a x) (rb : Real s.heap (C.D σ) b y) (h : inV σ x y = some r) :
    Gives C ls (compareOp .In a b) (.bool r) σ s ∧ Gives C ls (compareOp .NotIn a b) (.bool (!r)) σ s := by
  cases x with
  | int k =>
    obtain ⟨es, hd, rfl⟩ := Option.map_eq_some_iff.mp h
    exact g_inD R G ra rb hd
  | str k =>
    cases y with
    | tup xs =>
      obtain ⟨ks, hk, rfl⟩ := Option.map_eq_some_iff.mp h
      exact g_inT R G ra rb hk
    | _ => exact nn h
  | _ => exact nn h
end
end Mine
end

section

open PySem PyProof.Rows
namespace Mine
section
variable {C : Cx} {ls : Ls} {σ : View} {s : Shared} {a b : Value} {x y d : V}

theorem sz {n : Nat} (h : n ≤ 2 ^ 24) : n ≤ sizeLine := (h)

theorem Reals.of_get {h : Heap} {D : Addr → Prop} {vs : List Value} {xs : List V} (hl : vs.length = xs.length) (hg : ∀ (i : Nat) (v : Value), vs[i]? = some v → ∃ x, xs[i]? = some x ∧ Real h D v x) : Reals h D vs xs := by
  induction vs generalizing xs with
  | nil => exact (List.length_eq_zero_iff.mp hl.symm) ▸ .nil
  | cons v vs ih =>
    cases xs with
    | nil => exact absurd hl (Nat.succ_ne_zero _)
    | cons x xs =>
      obtain ⟨x', hq0⟩ := hg 0 v rfl
      exact .cons (Option.some.inj hq0.1 ▸ hq0.2) (ih (Nat.succ.inj hl) fun i w hw => hg (i + 1) w hw)

/-! copies -/
theorem listItems_of {xs : List V} (h : listItems σ x = some xs) : itemsOf σ x = some xs ∧ ∀ z, x ≠ .str z := by
  unfold listItems at h
  split at h
  · cases h
  · rename_i q; exact ⟨h, q⟩
theorem list_call (R : Rm C) (G : Good C σ ls s) {xs : List V} {Q : Value → Shared → Prop} (ra : Real s.heap (C.D σ) a x) (h : listItems σ x = some xs)
    (hQ : ∀ h' tk vs n, (∀ b o, s.heap.get? b = some o → h'.get? b = some o) → h'.get? s.heap.objs.size = some (listObj vs n) → vs.size ≤ 2 ^ 24 → Reals s.heap (C.D σ) vs.toList xs → Q (.ref s.heap.objs.size) { s with heap := h', toks := tk }) :
    wpAny (model C.W.prog C.W.w) C.A (call (.type "list") [a]) Q (fun _ _ => False) s := by
  obtain ⟨h, hstr⟩ := listItems_of h
  rcases itemsOf_cases h with ⟨z, rfl, rfl⟩ | hs | ⟨es, hd, rfl⟩
  · exact absurd rfl (hstr z)
  · obtain ⟨a', vs, n, rfl, ho, hz, rs⟩ := seq_at G ra hs
    rcases ho with ho | ho
    · exact call_list_seq a' (.inl rfl) ho rfl rfl (fun h' c' k e => hQ h' s.toks vs c' k e hz rs) (sz hz)
    · exact call_list_seq a' (.inr rfl) ho rfl rfl (fun h' c' k e => hQ h' s.toks vs c' k e hz rs) (sz hz)
  · obtain ⟨a', ds, n, rfl, ho, hz, hn, h2, rs⟩ := dic_at R.ok G ra hd
    obtain ⟨kvs, hq1⟩ := RealD.pairs (prog := C.W.prog) (w := C.W.w) rs
    have at' : s.heap.DictAt (intKind C.W.prog C.W.w) a' kvs n := ⟨_, ds, ho, ⟨rfl, rfl, rfl⟩, rfl, fun e he => hq1.2.2.2 e (Array.mem_toList_iff.mpr he), hq1.1, by rw [hq1.2.1]; exact hn⟩
    have el : kvs.length = es.length := by have := congrArg List.length hq1.2.1; simpa using this
    have el2 : es.length = ds.size := by rw [← rs.length]; rfl
    refine PySem.W.kdl_call (PySem.W.kdl_dict (sysMod h2)) R.hh at' (sz (by (first | lia | omega))) fun h' tk acc' c' k e hI => hQ h' tk acc' c' k e ?_ ?_
    · have := hI.1; (first | lia | omega)
    · refine Reals.of_get (by have := hI.1; simp; (first | lia | omega)) fun i v hv => ?_
      refine Exists.elim (hI.2 i v (by simpa using hv)) fun k hx => ?_; obtain ⟨w, hq0⟩ := hx
      have hk2 : (es.map (·.1))[i]? = some k := by rw [← hq1.2.1]; simp [hq0.1]
      refine Exists.elim (Value.isInt_shape hq0.2) fun t hx => ?_; obtain rfl := hx
      refine ⟨.int k, ?_, .int _ _⟩
      have : (es.map fun p => V.int p.1) = (es.map (·.1)).map V.int := by simp
      simp only [this, List.getElem?_map, hk2]; rfl
theorem g_list (R : Rm C) (G : Good C σ ls s) {xs : List V} (ra : Real s.heap (C.D σ) a x) (h : listItems σ x = some xs) : Gives C ls (call (.type "list") [a]) (.lst xs) σ s :=
  Gives.grown G (list_call R G ra h fun h' tk vs n k e hz rs => ⟨⟨h', tk, rfl, k⟩, fun h'' _ e' => by
    subst e'; exact .lst e hz G.newAddr (rs.leaves (leaves_keep k))⟩)
theorem g_tuple (G : Good C σ ls s) {xs : List V} (ra : Real s.heap (C.D σ) a x) (h : seqOf σ x = some xs) : Gives C ls (call (.type "tuple") [a]) (.tup xs) σ s := by
  cases x with
  | tup ys =>
    simp only [seqOf, Option.some.injEq] at h; subst h
    have ra' := ra
    cases ra with
    | tup ho hz hd rs => exact Gives.quiet G (call_tuple_same (isTup_of ho) ⟨⟨s.toks, rfl⟩, ra'⟩)
  | _ =>
    simp only [seqOf] at h
    obtain ⟨a', vs, n, rfl, ho, hz, rs⟩ := lst_at G ra h
    refine Gives.grown G (call_tuple_list (isList_of ho) (fun h' k => ⟨⟨_, s.toks, rfl, fun b o e => Heap.get?_push_of_some _ (k b o e)⟩, fun h'' k' e' => ?_⟩) (sz hz))
    subst e'
    have hs : ¬ C.D σ h'.objs.size := fun hd => by refine Exists.elim (G.toGround.there hd) ?_; rintro o e; exact absurd (Heap.lt_size (k _ _ e)) (Nat.lt_irrefl _)
    exact .tup (Heap.get?_push_size _ rfl) hz hs (rs.leaves (leaves_keep fun b o e => Heap.get?_push_of_some _ (k b o e)))

theorem dict_call (R : Rm C) (G : Good C σ ls s) {es : List (Int × V)} {Q : Value → Shared → Prop} (ra : Real s.heap (C.D σ) a x) (h : dicOf σ x = some es)
    (hQ : ∀ h', (∀ b o, s.heap.get? b = some o → h'.get? b = some o) → (∀ D', Leaves s.heap (C.D σ) h' D' → DictAt h' D' s.heap.objs.size es) →
      Q (.ref s.heap.objs.size) { s with heap := h' }) :
    wpAny (model C.W.prog C.W.w) C.A (call (.type "dict") [a]) Q (fun _ _ => False) s := by
  obtain ⟨a', ds, n, rfl, ho, hz, hn, h2, rs⟩ := dic_at R.ok G ra h
  obtain ⟨kvs, hq1⟩ := dictOf_of (prog := C.W.prog) (w := C.W.w) ho hn rs
  have el : kvs.length = es.length := by have := congrArg List.length hq1.2.1; simpa using this
  have el2 : es.length = ds.size := by rw [← rs.length]; rfl
  refine kt_call_dict (sysMod h2) hq1.1 (sz (by (first | lia | omega))) fun h' hd' hs' => ?_
  have k : ∀ b o, s.heap.get? b = some o → h'.get? b = some o := fun b o e => hs'.extBut b o (Nat.ne_of_lt (Heap.lt_size e)) (Heap.get?_push_of_some _ e)
  refine hQ h' k fun D' L => ?_
  refine Exists.elim (dictObj_of (D := D') hd' ⟨hq1.2.1, hq1.2.2.leaves L⟩) fun es' hx => ?_; obtain ⟨n', g1, g2, hq0⟩ := hx
  exact ⟨es', n', g1, by (first | lia | omega), hq0.1, hq0.2⟩
theorem g_dictF (R : Rm C) (G : Good C σ ls s) {es : List (Int × V)} (ra : Real s.heap (C.D σ) a x) (h : dicOf σ x = some es) : Gives C ls (call (.type "dict") [a]) (.dct es) σ s :=
  Gives.grown G (dict_call R G ra h fun h' k hd => ⟨⟨h', s.toks, rfl, k⟩, fun h'' _ e' => by
    subst e'
    obtain ⟨ds, n, g1, g2, g3, g4⟩ := hd _ (leaves_keep k)
    exact .dct g1 g2 g3 (Nat.lt_of_lt_of_le R.ok.two G.larger) G.newAddr g4⟩)
theorem g_dict (R : Rm C) (G : Good C σ ls s) {es : List (Int × V)} {Q : Post} (ra : Real s.heap (C.D σ) a x) (h : dicOf σ x = some es) (q : ∀ a, σ a = none → Q (.ref a) (σ.upd a (.dict false es))) :
    TrE C ls (call (.type "dict") [a]) (RV C Q) σ s :=
  TrE.newCell (c := .dict false es) G (dict_call R G ra h fun h' k hd => ⟨_, h', s.toks, rfl, rfl, k, Nat.le_refl _, hd _ (leaves_upd G k (Nat.le_refl _))⟩) q

/-! items -/
theorem g_item (R : Rm C) (G : Good C σ ls s) (ra : Real s.heap (C.D σ) a x) (rb : Real s.heap (C.D σ) b y) (h : itemV σ x y = some d) : Gives C ls (getItem a b) d σ s := by
  have main : ∀ {i : Int}, y = .int i → (match seqOf σ x with
      | some xs => (idxOf i xs.length).bind fun j => xs[j]?
      | none => (dicOf σ x).bind fun es => lookD i es) = some d → Gives C ls (getItem a b) d σ s := by
    rintro i rfl h
    obtain ⟨t, rfl⟩ := rb.int_i
    cases hs : seqOf σ x with
    | some xs =>
      rw [hs] at h
      obtain ⟨j, hj, hx⟩ := Option.bind_eq_some_iff.mp h
      obtain ⟨a', vs, n, rfl, ho, hz, rs⟩ := seq_at G ra hs
      have el : vs.size = xs.length := by rw [← rs.length]; simp
      obtain ⟨v, hv, rv⟩ := rs.get hx
      obtain ⟨h1, h2, h3⟩ := idxOf_lt hj
      have hv' : vs[j]? = some v := by simpa using hv
      rcases ho with ho | ho
      · by_cases h0 : 0 ≤ i
        · have : j = i.toNat := by unfold idxOf at hj; rw [if_pos h0, if_pos h3] at hj; cases hj; rfl
          subst this
          exact Gives.quiet G (wpAny_getItem_list (isList_of ho) h0 (by (first | lia | omega)) hv' ⟨⟨s.toks, rfl⟩, rv⟩)
        · have : j = (i + vs.size).toNat := by unfold idxOf at hj; rw [if_neg h0, if_pos h2] at hj; cases hj; rw [el]
          subst this
          exact Gives.quiet G (wpAny_getItem_list_neg (isList_of ho) (by (first | lia | omega)) (by (first | lia | omega)) (by (first | lia | omega)) hv' ⟨⟨s.toks, rfl⟩, rv⟩)
      · exact Gives.quiet G (PyProof.Rows.getItem_tuple (isTup_of ho) (by (first | lia | omega)) (by (first | lia | omega)) (by rw [el, ← idxOf_eq]; exact hj) hv' ⟨⟨s.toks, rfl⟩, rv⟩)
    | none =>
      rw [hs] at h
      obtain ⟨es, hd, hl⟩ := Option.bind_eq_some_iff.mp h
      obtain ⟨a', ds, n, rfl, ho, hz, hn, h2, rs⟩ := dic_at R.ok G ra hd
      obtain ⟨kvs, da, ea, va⟩ := dictOf_of (prog := C.W.prog) (w := C.W.w) ho hn rs
      rcases valueAt_of ea va i with ⟨_, h2⟩ | ⟨v, x, h1, h2, rv⟩
      · rw [h2] at hl; cases hl
      · rw [h2] at hl; cases hl
        exact Gives.quiet G (wpAny_getItem_of (intKind_is _ _ i t) da.mapOf h1 ⟨⟨_, rfl⟩, rv⟩)
  obtain ⟨i, rfl, h⟩ := int1_some h
  cases x with
  | str z =>
    obtain ⟨j, hj, h⟩ := Option.bind_eq_some_iff.mp h
    obtain ⟨c, hc, rfl⟩ := Option.map_eq_some_iff.mp h
    obtain ⟨t, rfl, k, hz⟩ := ra.str_i
    obtain ⟨u, rfl⟩ := rb.int_i
    obtain ⟨h1, h2, h3⟩ := idxOf_lt hj
    have hz' : z.length ≤ 2 ^ 24 := hz
    have hc' : z.cps[j]? = some c := by simpa using hc
    refine Gives.quiet G (P.getItem_str (c := c) ?_ (by rw [← idxOf_eq, hj]; exact hc') ⟨⟨_, rfl⟩, .str _ _ (strOk_one k hc') (by simp)⟩)
    simp; (first | lia | omega)
  | _ => exact main rfl h
theorem g_get (R : Rm C) (G : Good C σ ls s) {k : Int} {es : List (Int × V)} (ra : Real s.heap (C.D σ) a x) (rb : Real s.heap (C.D σ) b (.int k)) (h : dicOf σ x = some es) :
    Gives C ls (call (.builtin "dict.get") [a, b]) ((lookD k es).getD .none) σ s := by
  refine Exists.elim rb.int_i fun t hx => ?_; obtain rfl := hx
  obtain ⟨a', ds, n, rfl, ho, hz, hn, h2, rs⟩ := dic_at R.ok G ra h
  obtain ⟨kvs, hq0⟩ := dictOf_of (prog := C.W.prog) (w := C.W.w) ho hn rs
  refine Gives.quiet G (call_meetsIn F.slot_dict_get hq0.1.mapOf.typeIs F.entry_dict_get (F.args_dict_get_2 _ _) (meets_dict_get (intKind _ _) a' (intKind_is _ _ k t) (sysMod h2)) ⟨_, hq0.1.mapOf, ⟨_, rfl⟩, ?_⟩)
  rcases valueAt_of hq0.2.1 hq0.2.2 k with ⟨h1, h2⟩ | ⟨v, x, h1, h2, rv⟩
  · exact h1 ▸ h2 ▸ .none
  · exact h1 ▸ h2 ▸ rv

/-! numbers -/
theorem g_max2 (R : Rm C) (G : Good C σ ls s) {i j : Int} (ra : Real s.heap (C.D σ) a (.int i)) (rb : Real s.heap (C.D σ) b (.int j)) : Gives C ls (call (.builtin "max") [a, b]) (.int (max i j)) σ s := by
  refine Exists.elim ra.int_i fun _ hx => ?_; obtain rfl := hx; obtain ⟨_, rfl⟩ := rb.int_i
  refine Gives.grown G (max_two_ints R.hh fun h' tk k => ⟨⟨h', tk, rfl, k⟩, fun h'' _ e' => ?_⟩)
  split
  · rename_i q; rw [Int.max_eq_right (by solve_by_elim (maxDepth := 3) [Int.le_of_lt, Int.le_trans, Int.lt_of_lt_of_le, Int.lt_of_le_of_lt, i1, i2, i5, i6])]; exact .int _ _
  · rename_i q; rw [Int.max_eq_left (by lia)]; exact .int _ _
theorem g_int (G : Good C σ ls s) {t : Bool} (ra : Real s.heap (C.D σ) a (.bool t)) : Gives C ls (call (.type "int") [a]) (.int (if t then 1 else 0)) σ s := by
  obtain rfl := ra.bool_i; exact Gives.quiet G (call_int_bool ⟨⟨_, rfl⟩, .int _ _⟩)

theorem g_mkTup (G : Good C σ ls s) {vs : List Value} {xs : List V} (r : Reals s.heap (C.D σ) vs xs) (h : xs.length ≤ 1000) : Gives C ls (newTuple vs) (.tup xs) σ s := by
  have hl := r.length
  exact Gives.new G (new_tup (vs := vs.toArray) G (by simp; (first | lia | omega)) (by exact r)) (wpAny_newTuple ⟨rfl, s.toks, rfl⟩ (sz (by (first | lia | omega))))
theorem g_mkList (G : Good C σ ls s) {vs : List Value} {xs : List V} (r : Reals s.heap (C.D σ) vs xs) (h : xs.length ≤ 1000) : Gives C ls (newList vs) (.lst xs) σ s := by
  have hl := r.length
  exact Gives.new G (new_lst (vs := vs.toArray) G (by simp; (first | lia | omega)) (by exact r)) (wpAny_newList ⟨rfl, s.toks, rfl⟩ (sz (by (first | lia | omega))))
theorem g_mkListM (G : Good C σ ls s) {vs : List Value} {xs : List V} {Q : Post} (r : Reals s.heap (C.D σ) vs xs) (h : xs.length ≤ 1000) (q : ∀ a, σ a = none → Q (.ref a) (σ.upd a (.list false xs))) :
    TrE C ls (newList vs) (RV C Q) σ s := by
  have hl := r.length
  refine TrE.newCell (c := .list false xs) G (wpAny_newList ⟨_, _, s.toks, rfl, rfl, fun b o e => Heap.get?_push_of_some _ e, Nat.le_refl _, vs.toArray, 0, Heap.get?_push_size _ rfl, by simp; (first | lia | omega), ?_⟩ (sz (by (first | lia | omega)))) q
  exact r.leaves (leaves_upd G (fun b o e => Heap.get?_push_of_some _ e) (Nat.le_refl _))
end
end Mine
end

section

open PySem PyProof.Rows
namespace Mine

section
variable {prog : Program} {w : World} {A : Around} {E : Value → Shared → Prop} {s : Shared}
theorem subscripted_ops (slice : Expr) (o i : Value) : ∃ ops, subscripted slice false o i = operate ops (getItem o i) := by
  cases slice with
  | Slice a b c p => cases c <;> exact ⟨_, rfl⟩
  | _ => exact ⟨_, rfl⟩
theorem subTail {value slice : Expr} {o i : Value} {T id : String} {Q : Value → Shared → Prop} (hT : s.TypeIs o T)
    (hl : typeLookup (.type T) "__getitem__" = pure (some (.builtin id))) (h : wpAny (model prog w) A (getItem o i) Q E s) : wpAny (model prog w) A (subscriptTail value slice o i) Q E s := by
  refine Exists.elim (subscripted_ops slice o i) ?_; rintro ops hs
  skip
  refine wpAny_bind ?_
  skip
  refine wpAny_bind (wpAny_specialOf hT hl ?_)
  have fin : wpAny (model prog w) A (subscripted slice false o i) (fun r s₃ => wpAny (model prog w) A (letTemporaryGo value o r >>= fun _ => pure r) Q E s₃) E s := by
    refine hs ▸ ?_
    exact wpAny_operating (wpAny_mono h (fun r s₃ h₃ => wpAny_bind (wpAny_letTemporaryGo (wpAny_pure h₃))) fun _ _ x => x)
  first
    | exact wpAny_pure (wpAny_bind fin)
    | exact wpAny_bind (wpAny_pure (wpAny_bind fin))
    | exact wpAny_bind fin

theorem clipI_eq (n : Nat) (i : Int) : clipI n i = clipAt n i := by
  rcases Int.lt_or_le i 0 with h | h
  · refine Exists.elim (Int.exists_eq_neg_ofNat (Int.le_of_lt h)) fun k hx => ?_; obtain rfl := hx
    have hk : 1 ≤ k := Nat.pos_of_ne_zero fun e => by subst e; exact absurd h (by decide)
    simp only [clipAt_neg n k hk]
    unfold clipI
    rw [if_pos h, Int.add_comm, ← Int.sub_eq_add_neg]
    exact Int.toNat_sub n k
  · refine Exists.elim (Int.eq_ofNat_of_zero_le h) fun k hx => ?_; obtain rfl := hx
    simp only [clipAt_nat]
    exact if_neg (Int.not_lt.mpr h)

theorem sliceL_eq (items : Array Value) (lo : Option Int) (hi : Option Int) : (slicePick items lo hi none).toList = sliceL items.toList (lo.getD 0) hi := by
  rw [slicePick_plain]
  dsimp only [sliceL]
  have e1 : lo.elim 0 (clipAt items.size) = clipI items.toList.length (lo.getD 0) := by
    cases lo with
    | none => rfl
    | some i => simp [clipI_eq]
  have e2 : hi.elim items.size (clipAt items.size) = hi.elim items.toList.length (clipI items.toList.length) := by
    cases hi with
    | none => simp
    | some i => simp [clipI_eq]
  refine e1 ▸ ?_; refine e2 ▸ ?_
  skip
  simp only [List.drop_take]

theorem slicePart {v : Value} {k : Option Int} {Q : Option Int → Shared → Prop} (hv : IsPart v k) (h : Q k s) : wpAny (model prog w) A (Builtin.Slice.slicePartIndex v) Q E s := by
  cases hv with
  | none => exact wpAny_pure h
  | int i t =>
    skip
    skip
    refine wpAny_bind (wpAny_specialOf (T := "int") (typeIs_int s i t) int_index ?_)
    skip
    exact wpAny_bind (wpAny_of_eq (a := i) rfl (wpAny_pure h))

theorem adjust_plain (lo hi : Option Int) (n : Nat) : Builtin.Slice.sliceAdjust lo hi 1 (n : Int) = (((lo.elim 0 (clipAt n) : Nat) : Int), ((hi.elim n (clipAt n) : Nat) : Int)) := by
  dsimp only [Builtin.Slice.sliceAdjust]
  have h1 : ¬ ((1 : Int) < 0) := by (first | lia | omega)
  skip
  refine Prod.ext ?_ ?_
  · cases lo with
    | none => rfl
    | some i => simp only [Option.elim, clipAt_cast]; split <;> (first | lia | omega)
  · cases hi with
    | none => rfl
    | some i => simp only [Option.elim, clipAt_cast]; split <;> (first | lia | omega)
theorem places_plain (a b : Nat) : Builtin.Slice.slicePlaces (a : Int) (b : Int) 1 = b - a := by
  unfold Builtin.Slice.slicePlaces
  simp only [show (1 : Int) > 0 by exact Int.le_refl _, if_true]
  split <;> lia
theorem sliceApplied_plain {sl : Addr} {n : Nat} {vl vu : Value} {lo hi : Option Int} {Q : Int × Int × Nat → Shared → Prop} (hs : s.heap.IsSliceOf sl vl vu .none) (pl : IsPart vl lo) (pu : IsPart vu hi)
    (h : Q (((lo.elim 0 (clipAt n) : Nat) : Int), 1, hi.elim n (clipAt n) - lo.elim 0 (clipAt n)) s) :
    wpAny (model prog w) A (Builtin.Slice.sliceApplied (.ref sl) (pure (n : Int))) Q E s := by
  refine Exists.elim (id hs) ?_; rintro os hq0
  skip
  refine wpAny_bind (wpAny_bind (wpAny_field hq0.1 hq0.2.2 (x := vl) rfl (wpAny_bind (wpAny_field hq0.1 hq0.2.2 (x := vu) rfl (wpAny_bind (wpAny_field hq0.1 hq0.2.2 (x := .none) rfl (wpAny_pure ?_)))))))
  refine wpAny_bind (slicePart .none ?_)
  skip
  skip
  refine wpAny_bind (slicePart pl (wpAny_bind (slicePart pu (wpAny_bind (wpAny_pure ?_)))))
  show wpAny _ _ (match Builtin.Slice.sliceAdjust lo hi 1 (n : Int) with | (lo, hi) => pure (lo, (1 : Int), Builtin.Slice.slicePlaces lo hi 1)) _ _ s
  rw [adjust_plain]
  show wpAny _ _ (pure (_, (1 : Int), Builtin.Slice.slicePlaces _ _ 1)) _ _ s
  rw [places_plain]
  exact wpAny_pure h
theorem pick_plain (xs : Array Value) (a m : Nat) : ((List.range m).filterMap fun (k : Nat) => xs[((a : Int) + (k : Int) * 1).toNat]?).toArray = ((xs.toList.drop a).take m).toArray := by
  have e : (fun (k : Nat) => xs[((a : Int) + (k : Int) * 1).toNat]?) = fun k => xs[a + k]? := by
    funext k
    have : ((a : Int) + (k : Int) * 1).toNat = a + k := by (first | lia | omega)
    rw [this]
  refine e ▸ ?_
  have := pick_run xs a m
  rw [List.filterMap_map] at this
  have e2 : ((fun x => xs[x]?) ∘ fun x => a + x) = fun k => xs[a + k]? := rfl
  rw [e2] at this
  rw [this]

/-- a tuple's part; the whole is the tuple itself -/
theorem getItem_tuple_slice {t sl : Addr} {items : Array Value} {n : Nat} {vl vu : Value} {lo hi : Option Int} {Q : Value → Shared → Prop} (ht : s.heap.get? t = some (tupObj items n)) (hs : s.heap.IsSliceOf sl vl vu .none)
    (pl : IsPart vl lo) (pu : IsPart vu hi)
    (h1 : sliceL items.toList (lo.getD 0) hi = items.toList → Q (.ref t) s)
    (h2 : Q (.ref s.heap.objs.size) { s with heap := s.heap.push (tupObj (sliceL items.toList (lo.getD 0) hi).toArray 0) })
    (hsz : items.size ≤ sizeLine) : wpAny (model prog w) A (getItem (.ref t) (.ref sl)) Q E s := by
  have et : sliceL items.toList (lo.getD 0) hi = (items.toList.drop (lo.elim 0 (clipAt items.size))).take (hi.elim items.size (clipAt items.size) - lo.elim 0 (clipAt items.size)) := by
    rw [← sliceL_eq, slicePick_plain]
  have ht' : IsTup s.heap t items := ⟨_, ht, rfl, n, rfl⟩
  have hdrop : sizeOk (.seq (sliceL items.toList (lo.getD 0) hi).toArray) := by
    show (sliceL items.toList (lo.getD 0) hi).toArray.size ≤ sizeLine
    simp only [et, List.size_toArray, List.length_take, List.length_drop, Array.length_toList]
    exact Nat.le_trans (Nat.min_le_right _ _) (Nat.le_trans (Nat.sub_le _ _) hsz)
  refine Exists.elim (id hs) ?_; rintro os hq0
  have hTs : s.TypeIs (.ref sl) "slice" := ⟨os, hq0.1, hq0.2.1⟩
  dsimp only [getItem]
  try with_reducible refine wpAny_holding ?_
  first | refine wpAny_bind (wpAny_pure ?_) | skip
  refine wpAny_bind (wpAny_sequenceKey ht'.typeIs (rfl) ?_)
  refine wpAny_bind (wpAny_callSpecial?_slot (name := Str.ofString "__getitem__") ht'.typeIs slot_tuple_getitem
    (wpAny_call_entry slot_tuple_getitem ht'.typeIs entry_tuple_getitem ?_ (args_tuple_getitem _ _)))
  show wpAny _ _ (Builtin.Tuple.tupleItemsOf (.ref t) >>= _) _ _ s
  refine wpAny_bind (tupleItemsOf_ ht' ?_)
  refine wpAny_bind (wpAny_typeOf hTs ?_)
  skip
  refine wpAny_bind (sliceApplied_plain hs pl pu ?_)
  show wpAny _ _ (if (((lo.elim 0 (clipAt items.size) : Nat) : Int) == 0 && (1 : Int) == 1 && (hi.elim items.size (clipAt items.size) - lo.elim 0 (clipAt items.size)) == items.size) = true then _ else _) _ _ s
  by_cases hw : (((lo.elim 0 (clipAt items.size) : Nat) : Int) == 0 && (1 : Int) == 1 && (hi.elim items.size (clipAt items.size) - lo.elim 0 (clipAt items.size)) == items.size) = true
  · rw [if_pos hw]
    simp only [Bool.and_eq_true, beq_iff_eq] at hw
    have h0 : lo.elim 0 (clipAt items.size) = 0 := by have := hw.1.1; (first | lia | omega)
    have hq : Q (.ref t) s := h1 (by rw [et, hw.2, h0, List.drop_zero, List.take_of_length_le (by exact Nat.le_refl _)])
    refine wpAny_bind ?_
    dsimp only [Builtin.Tuple.tupleIsExact]
    refine wpAny_bind (wpAny_typeOf ht'.typeIs (wpAny_pure ?_))
    skip
    refine wpAny_bind (wpAny_rule ?_)
    exact wpAny_pure ⟨_, rfl, wpAny_pure hq⟩
  · rw [if_neg hw, pick_plain, ← et]
    first
      | exact wpAny_bind (m := Builtin.Tuple.tupleExact _) (wpAny_newObj_type (wpAny_pure ⟨_, rfl, wpAny_pure h2⟩) hdrop)
      | exact wpAny_bind (m := Builtin.Tuple.tupleExact _) (wpAny_newObj_type (wpAny_bind (wpAny_pure (wpAny_pure ⟨_, rfl, wpAny_pure h2⟩))) hdrop)
      | exact wpAny_bind (wpAny_bind (m := Builtin.Tuple.tupleExact _) (wpAny_newObj_type (wpAny_pure (wpAny_pure ⟨_, rfl, wpAny_pure h2⟩)) hdrop))
      | exact wpAny_bind (wpAny_bind (m := Builtin.Tuple.tupleExact _) (wpAny_newObj_type (wpAny_pure ⟨_, rfl, wpAny_pure h2⟩) hdrop))
end
end Mine
end

section

open PySem PyProof.Rows
namespace Mine

section
variable {C : Cx} {ls : Ls} {σ : View} {s : Shared} {a b : Value} {x y d : V}

/-- what can be subscripted -/
theorem sub_type (R : Rm C) (G : Good C σ ls s) (ra : Real s.heap (C.D σ) a x) (h : (∃ z, x = .str z) ∨ (∃ xs, seqOf σ x = some xs) ∨ ∃ es, dicOf σ x = some es) :
    ∃ T id, s.TypeIs a T ∧ typeLookup (.type T) "__getitem__" = pure (some (.builtin id)) := by
  rcases h with ⟨z, rfl⟩ | ⟨xs, hs⟩ | ⟨es, hd⟩
  · obtain ⟨t, rfl, _, _⟩ := ra.str_i; exact ⟨"str", _, typeIs_str _ _ _, F.slot_str_getitem.lookup⟩
  · obtain ⟨a', vs, n, rfl, ho, hz, rs⟩ := seq_at G ra hs
    rcases ho with ho | ho
    · exact ⟨"list", _, (isList_of ho).typeIs, slot_list_getitem.lookup⟩
    · exact ⟨"tuple", _, (isTup_of ho).typeIs, slot_tuple_getitem.lookup⟩
  · obtain ⟨a', ds, n, rfl, ho, hz, hn, h2, rs⟩ := dic_at R.ok G ra hd
    obtain ⟨kvs, da, ea, va⟩ := dictOf_of (prog := C.W.prog) (w := C.W.w) ho hn rs
    exact ⟨"dict", _, da.mapOf.typeIs, slot_dict_getitem.lookup⟩
theorem itemQ_base {i : Int} (h : itemQ σ x i = some d) : (∃ xs, seqOf σ x = some xs) ∨ ∃ es, dicOf σ x = some es := by
  have h : (match seqOf σ x with | some xs => (idxOf i xs.length).bind fun j => xs[j]? | none => (dicOf σ x).bind fun es => lookD i es) = some d := h
  cases e : seqOf σ x with
  | some xs => exact .inl ⟨xs, rfl⟩
  | none => rw [e] at h; obtain ⟨es, e, _⟩ := Option.bind_eq_some_iff.mp h; exact .inr ⟨es, e⟩
theorem itemV_base (h : itemV σ x y = some d) : (∃ z, x = .str z) ∨ (∃ xs, seqOf σ x = some xs) ∨ ∃ es, dicOf σ x = some es := by
  obtain ⟨i, rfl, h'⟩ := int1_some h
  cases x with
  | str z => exact .inl ⟨z, rfl⟩
  | _ => exact .inr (itemQ_base (i := i) h')
theorem g_itemT (R : Rm C) (G : Good C σ ls s) {u v : Expr} (ra : Real s.heap (C.D σ) a x) (rb : Real s.heap (C.D σ) b y) (h : itemV σ x y = some d) : Gives C ls (subscriptTail u v a b) d σ s := by
  refine Exists.elim (sub_type R G ra (itemV_base h)) fun T hx => ?_; obtain ⟨id, hq0⟩ := hx
  exact subTail hq0.1 hq0.2 (g_item R G ra rb h)

noncomputable def slObj (vl vu : Value) : Obj := { cls := .type "slice", dict := none, data := .fields #[vl, vu, .none] }
noncomputable def slSh (vl vu : Value) (s : Shared) : Shared := { s with heap := s.heap.push (slObj vl vu) }
theorem slice_of {vl vu : Value} : (slSh vl vu s).heap.IsSliceOf s.heap.objs.size vl vu .none := ⟨_, Heap.get?_push_size _ rfl, rfl, rfl⟩
theorem g_sliceB {u v : Expr} {vl vu : Value} {T id : String} (G : Good C σ ls s) (hT : (slSh vl vu s).TypeIs a T) (hl : typeLookup (.type T) "__getitem__" = pure (some (.builtin id))) (h : Gives C ls (getItem a (.ref s.heap.objs.size)) d σ (slSh vl vu s)) :
    Gives C ls (newFields "slice" [vl, vu, .none] >>= fun i => subscriptTail u v a i) d σ s := by
  refine TrE.bind ?_
  refine wpAny_newObj_type ⟨σ, G.push _ s.toks, Step.push _ _ _ _, ?_⟩ (by show (3 : Nat) ≤ sizeLine + 2; rw [sizeLine_eq]; decide)
  exact subTail hT hl h
theorem Reals.slice {h : Heap} {D : Addr → Prop} {vs : List Value} {xs : List V} (rs : Reals h D vs xs) (lo : Int) (hi : Option Int) : Reals h D (sliceL vs lo hi) (sliceL xs lo hi) := by
  unfold sliceL
  rw [rs.length]
  exact Reals.drop _ (Reals.take _ rs)
theorem g_sliceL {u v : Expr} {vl vu : Value} {lo hi : Option Int} {xs : List V} (G : Good C σ ls s) (ra : Real s.heap (C.D σ) a x) (pl : IsPart vl lo) (pu : IsPart vu hi) (hx : lstOf σ x = some xs) :
    Gives C ls (newFields "slice" [vl, vu, .none] >>= fun i => subscriptTail u v a i) (.lst (sliceL xs (lo.getD 0) hi)) σ s := by
  have G' : Good C σ ls (slSh vl vu s) := G.push (slObj vl vu) s.toks
  obtain ⟨a', vs, n, rfl, ho, hz, rs⟩ := lst_at G' (ra.push G (slObj vl vu)) hx
  refine g_sliceB G (isList_of ho).typeIs slot_list_getitem.lookup ?_
  refine Gives.new G' ?_ (wpAny_getItem_list_slice (isList_of ho) slice_of pl pu .none (by decide) ⟨rfl, s.toks, rfl⟩ (sz hz))
  refine new_lst G' (Nat.le_trans (slicePick_size_le _ _ _ _) hz) ?_
  rw [sliceL_eq]
  exact rs.slice _ _
theorem g_sliceT {u v : Expr} {vl vu : Value} {lo hi : Option Int} {xs : List V} (G : Good C σ ls s) (ra : Real s.heap (C.D σ) a (.tup xs)) (pl : IsPart vl lo) (pu : IsPart vu hi) :
    Gives C ls (newFields "slice" [vl, vu, .none] >>= fun i => subscriptTail u v a i) (.tup (sliceL xs (lo.getD 0) hi)) σ s := by
  have G' : Good C σ ls (slSh vl vu s) := G.push (slObj vl vu) s.toks
  obtain ⟨t, vs, n, rfl, ho, hz, hd, rs⟩ := (ra.push G (slObj vl vu)).tup_i
  refine g_sliceB G (isTup_of ho).typeIs slot_tuple_getitem.lookup ?_
  have rsl := rs.slice (lo.getD 0) hi
  refine getItem_tuple_slice (s := slSh vl vu s) ho slice_of pl pu (fun e => ?_) ?_ (sz hz)
  · rw [e] at rsl
    exact ⟨σ, G', Step.refl _ _ _, .tup ho hz hd rsl, rfl⟩
  · refine ⟨σ, G'.push _ s.toks, Step.push _ _ _ _, new_tup G' ?_ rsl, rfl⟩
    rw [List.size_toArray]
    exact Nat.le_trans (List.Sublist.length_le ((List.drop_sublist _ _).trans (List.take_sublist _ _))) hz
theorem g_slice (R : Rm C) (G : Good C σ ls s) {u v : Expr} {vl vu : Value} {lo hi : Option Int} (ra : Real s.heap (C.D σ) a x) (pl : IsPart vl lo) (pu : IsPart vu hi) (h : sliceV σ x (lo.getD 0) hi = some d) :
    Gives C ls (newFields "slice" [vl, vu, .none] >>= fun i => subscriptTail u v a i) d σ s := by
  have gen : (lstOf σ x).map (fun xs => V.lst (sliceL xs (lo.getD 0) hi)) = some d → Gives C ls (newFields "slice" [vl, vu, .none] >>= fun i => subscriptTail u v a i) d σ s := fun h => by
    obtain ⟨xs, hx, rfl⟩ := Option.map_eq_some_iff.mp h
    exact g_sliceL G ra pl pu hx
  cases x with
  | tup xs => obtain rfl := Option.some.inj h; exact g_sliceT G ra pl pu
  | _ => exact gen h
end
end Mine
end

section

open PySem PyProof.Rows
namespace Mine
section
variable {C : Cx} {ls : Ls} {σ : View} {s : Shared} {a b : Value} {x y d : V}

/-! all -/
/-! strings -/
theorem Reals.strs {h : Heap} {D : Addr → Prop} {vs : List Value} {ks : List Str} (r : Reals h D vs (ks.map .str)) : ∃ l : List (Str × Tok), vs = strValues l ∧ l.map (·.1) = ks ∧ ∀ z ∈ ks, PyData.strOk z = true := by
  induction ks generalizing vs with
  | nil => exact ⟨[], r.nil_i, rfl, fun _ h => (List.not_mem_nil h).elim⟩
  | cons k ks ih =>
    obtain ⟨v, ws, rfl, a, b⟩ := r.cons_i
    obtain ⟨t, rfl, hq0⟩ := a.str_i
    refine Exists.elim (ih b) fun l hx => ?_; obtain ⟨rfl, hl, hk⟩ := hx
    refine ⟨(k, t) :: l, rfl, congrArg (k :: ·) hl, fun z hz => ?_⟩
    rcases List.mem_cons.mp hz with rfl | hz
    · exact hq0.1
    · exact hk z hz
theorem join_empty : ∀ l : List Str, Str.join Str.empty l = ⟨(l.map (·.cps.toList)).flatten.toArray⟩
  | [] => rfl
  | [x] => by obtain ⟨⟨c⟩⟩ := x; simp [Str.join]
  | x :: y :: r => by
    have ih := join_empty (y :: r)
    show x ++ Str.empty ++ Str.join Str.empty (y :: r) = _
    rw [ih]
    have e : ∀ p q : Str, (p ++ q) = ⟨p.cps ++ q.cps⟩ := fun p q => rfl
    simp only [e, e]
    simp [Str.empty]
theorem foldl_len (sep : Str) (h0 : sep.length = 0) : ∀ (l : List Str) (n : Nat), l.foldl (fun a x => a + x.length + sep.length) n = n + (l.map (·.length)).sum
  | [], n => by simp
  | x :: r, n => by simp only [List.foldl_cons, List.map_cons, List.sum_cons]; rw [foldl_len sep h0 r]; (first | lia | omega)
theorem strOk_all {l : List Nat} (h : ∀ c ∈ l, c < 1114112) : PyData.strOk ⟨l.toArray⟩ = true := by
  dsimp only [PyData.strOk]
  refine Array.all_toList ▸ ?_
  exact List.all_eq_true.mpr fun c hc => by simpa using h c (by simpa using hc)
theorem strOk_mem {x : Str} (hx : PyData.strOk x = true) : ∀ c ∈ x.cps.toList, c < 1114112 := by
  unfold PyData.strOk at hx
  rw [← Array.all_toList] at hx
  exact fun c hc => by simpa using List.all_eq_true.mp hx c hc
theorem g_join (G : Good C σ ls s) {sep : Str} {xs : List V} {ss : List Str} (ra : Real s.heap (C.D σ) a (.str sep)) (rb : Real s.heap (C.D σ) b y) (h : lstOf σ y = some xs) (hs : strs? xs = some ss) (h0 : sep.length = 0)
    (hl : (ss.map (·.length)).sum ≤ big) : Gives C ls (call (.builtin "str.join") [a, b]) (.str ⟨(ss.map (·.cps.toList)).flatten.toArray⟩) σ s := by
  have hx := strs?_map hs
  subst hx
  obtain ⟨a', vs, n, rfl, ho, hz, rs⟩ := lst_at G rb h
  obtain ⟨l, hv, rfl, hk⟩ := rs.strs
  cases ra with
  | str _ t q1 q2 =>
  have hsep : sep = Str.empty := by
    obtain ⟨⟨c⟩⟩ := sep
    simp [Str.length] at h0
    subst h0; rfl
  subst hsep
  have hIs : s.heap.IsList a' (strValues l).toArray := by
    have := isList_of ho
    rwa [show vs = (strValues l).toArray by rw [← hv]] at this
  have e : Txt.join Str.empty (l.map (·.1)) = ⟨((l.map (·.1)).map (·.cps.toList)).flatten.toArray⟩ := by
    unfold Txt.join
    simp only [StrLaws.glued_eq_join, join_empty]
  have hsum : ((l.map (·.1)).map (·.length)).sum ≤ 2 ^ 24 := hl
  have hok : JoinOk Str.empty (l.map (·.1)) = true := by
    delta JoinOk Builtin.Str.tooLong
    rw [← Array.foldl_toList, foldl_len _ rfl, sizeLine_eq]
    simpa using hsum
  refine Gives.quiet G (SC.join hIs rfl hok fun t' k => ⟨⟨k, rfl⟩, ?_⟩)
  refine (Eq.symm e) ▸ ?_
  refine .str _ _ ?_ ?_
  · refine strOk_all fun c hc => ?_
    obtain ⟨z, hq0⟩ := List.mem_flatten.mp hc
    obtain ⟨y, hy, rfl⟩ := List.mem_map.mp hq0.1
    exact strOk_mem (hk y hy) c hq0.2
  · skip
    refine (Eq.symm List.size_toArray) ▸ ?_; refine (Eq.symm List.length_flatten) ▸ ?_; refine (Eq.symm List.map_map) ▸ ?_
    exact hsum

theorem mul_str_eq (z : Str) (n : Int) : Txt.mul z n = ⟨(List.replicate n.toNat z.cps.toList).flatten.toArray⟩ := by
  have fold : ∀ (k : Nat) (acc : Array Nat), (List.replicate k z.cps).foldl (· ++ ·) acc = acc ++ (List.replicate k z.cps.toList).flatten.toArray := by
    intro k
    induction k with
    | zero => intro acc; rfl
    | succ k ih =>
      intro acc
      simp only [List.replicate_succ, List.foldl_cons, ih, List.replicate_succ, List.flatten_cons]
      apply Array.toList_inj.mp
      simp [List.append_assoc]
  unfold Txt.mul
  split
  · have : n.toNat = 0 := by (first | lia | omega)
    refine this ▸ ?_; rfl
  · split
    · rename_i h
      simp only [Bool.or_eq_true, beq_iff_eq] at h
      rcases h with rfl | h
      · obtain ⟨⟨c⟩⟩ := z; simp
      · obtain ⟨⟨c⟩⟩ := z
        simp [Str.length] at h
        subst h
        simp
    · rw [fold]; simp
theorem flat_len {α : Type} (n : Nat) (l : List α) : (List.replicate n l).flatten.length = n * l.length := by
  induction n with
  | zero => simp
  | succ n ih => simp only [List.replicate_succ, List.flatten_cons, List.length_append, ih, Nat.succ_mul]; (first | lia | omega)
theorem g_mul (G : Good C σ ls s) (ra : Real s.heap (C.D σ) a x) (rb : Real s.heap (C.D σ) b y) (h : mulV σ x y = some d) : Gives C ls (binaryOp .Mult a b) d σ s := by
  cases x with
  | int i =>
    refine Exists.elim (int1_some h) fun j hx => ?_; obtain ⟨rfl, h⟩ := hx
    obtain ⟨hm, rfl⟩ := ite_some h
    obtain ⟨t, rfl⟩ := ra.int_i
    refine Exists.elim rb.int_i fun u hx => ?_; obtain rfl := hx
    exact Gives.quiet G (PySem.P.mul_int ⟨⟨_, rfl⟩, .int _ _⟩ (mulFits_ok hm))
  | str z =>
    refine Exists.elim (int1_some h) fun n hx => ?_; obtain ⟨rfl, h⟩ := hx
    obtain ⟨hm, rfl⟩ := ite_some h
    obtain ⟨t, rfl, hq0⟩ := ra.str_i
    refine Exists.elim rb.int_i fun u hx => ?_; obtain rfl := hx
    obtain ⟨hm1, hm2⟩ := hm
    have hm' : z.length * n.toNat ≤ 2 ^ 24 := hm1
    unfold smallI at hm2
    simp only [Bool.and_eq_true, decide_eq_true_eq] at hm2
    refine Gives.quiet G (SB.mul ⟨by skip; lia, fun h1 h2 => ?_, fun h1 h2 => ?_⟩ fun t' k => ⟨⟨k, rfl⟩, ?_⟩)
    · simp at h2
      have hn : 0 < n := by lia
      intro hgt
      have h3 : (2 ^ 63 - 1 : Int) < z.length * n := by
        have := Int.lt_mul_of_ediv_lt hn hgt
        assumption
      have h4 : ((z.length * n.toNat : Nat) : Int) = z.length * n := by rw [Int.natCast_mul, Int.toNat_of_nonneg (by solve_by_elim (maxDepth := 3) [Int.le_of_lt, Int.le_trans, Int.lt_of_lt_of_le, Int.lt_of_le_of_lt, i1, i2, i5, i6])]
      lia
    · unfold Builtin.Str.tooLong
      refine sizeLine_eq ▸ ?_; simpa using hm'
    · rw [mul_str_eq]
      refine .str _ _ (strOk_rep hq0.1 _) ?_
      skip
      rw [List.size_toArray, flat_len, Nat.mul_comm]
      exact hm'
  | _ => exact nn h

/-! lists that change -/
theorem setL {l : Addr} {xs ys : List V} {vs : Array Value} {n : Nat} {f : Array Value → Array Value} (G : Good C σ ls s) (e : σ l = some (.list false xs)) (ho : s.heap.get? l = some (listObj vs n)) (hz : (f vs).size ≤ 2 ^ 24)
    (r : Reals s.heap (C.D σ) (f vs).toList ys) : Good C (σ.upd l (.list false ys)) ls { s with heap := s.heap.update l (Obj.mapSeq f) } ∧ Step C.own s.heap σ (s.heap.update l (Obj.mapSeq f)) (σ.upd l (.list false ys)) := by
  have hs : Heap.SameBut l s.heap (s.heap.update l (Obj.mapSeq f)) := Heap.SameBut.update ..
  have S := Step.setCell (own := C.own) (c' := .list false ys) e rfl hs
  refine ⟨G.setCell (tk := s.toks) e rfl hs ⟨f vs, if (f vs).size == vs.size then n else n + 1, Heap.get?_update_self _ ho rfl, hz, ?_⟩, S⟩
  exact r.leaves (G.leaves S)
theorem set_none {v : Value} {σ' : View} {s' : Shared} {Q : Post} (hv : v = .none) (G : Good C σ' ls s') (S : Step C.own s.heap σ s'.heap σ') (q : Q .none σ') :
    EOut C ls (RV C Q) s.heap σ v s' := ⟨σ', G, S, .none, (hv ▸ .none), q⟩

theorem g_append (G : Good C σ ls s) {l : Addr} {xs : List V} {Q : Post} (ra : Real s.heap (C.D σ) a (.ref l)) (rb : Real s.heap (C.D σ) b y) (e : σ l = some (.list false xs)) (hl : xs.length < big) (q : Q .none (σ.upd l (.list false (xs ++ [y])))) :
    TrE C ls (call (.builtin "list.append") [a, b]) (RV C Q) σ s := by
  cases ra
  obtain ⟨vs, n, ho, hz, rs⟩ := G.sim l _ e
  have el : vs.size = xs.length := by rw [← rs.length]; rfl
  have hl' : xs.length < 2 ^ 24 := hl
  obtain ⟨G', S'⟩ := setL (f := fun x => x.push b) (ys := xs ++ [y]) G e ho (by rw [Array.size_push]; (first | lia | omega)) (((Eq.symm Array.toList_push) ▸ (rs.append (.cons rb .nil))))
  exact call_meets F.slot_list_append ⟨_, ho, rfl⟩ F.entry_list_append (F.args_list_append_2 _ _) (PySem.list_append l vs n b (sz hz)) ⟨ho, set_none rfl G' S' q⟩
theorem g_extend (G : Good C σ ls s) {l : Addr} {xs ys : List V} {Q : Post} (ra : Real s.heap (C.D σ) a (.ref l)) (rb : Real s.heap (C.D σ) b (.lst ys)) (e : σ l = some (.list false xs)) (hl : xs.length + ys.length ≤ big) (q : Q .none (σ.upd l (.list false (xs ++ ys)))) :
    TrE C ls (call (.builtin "list.extend") [a, b]) (RV C Q) σ s := by
  cases ra
  obtain ⟨vs, n, ho, hz, rs⟩ := G.sim l _ e
  have el : vs.size = xs.length := by rw [← rs.length]; simp
  cases rb with
  | lst hb hzb hdb rsb =>
    rename_i b' ws m
    have el2 : ws.size = ys.length := by rw [← rsb.length]; simp
    have hl' : xs.length + ys.length ≤ 2 ^ 24 := hl
    obtain ⟨G', S'⟩ := setL (f := fun x => x ++ ws) (ys := xs ++ ys) G e ho (by rw [Array.size_append]; (first | lia | omega)) (by rw [Array.toList_append]; exact rs.append rsb)
    refine call_meets F.slot_list_extend ⟨_, ho, rfl⟩ F.entry_list_extend (F.args_list_extend_2 _ _) (AutoSeq1.list_extend_list_list_0 l vs n b' ws m ?_ (sz hz) (by rw [sizeLine_eq]; (first | lia | omega))) ⟨ho, hb, set_none rfl G' S' q⟩
    unfold Builtin.List.listTooLong
    rw [sizeLine_eq]
    simp; (first | lia | omega)
theorem g_popL (G : Good C σ ls s) {l : Addr} {xs : List V} {Q : Post} (ra : Real s.heap (C.D σ) a (.ref l)) (e : σ l = some (.list false (xs ++ [x]))) (q : Q x (σ.upd l (.list false xs))) :
    TrE C ls (call (.builtin "list.pop") [a]) (RV C Q) σ s := by
  obtain rfl := ra.ref_i
  obtain ⟨vs, n, ho, hz, rs⟩ := G.sim l _ e
  have el : vs.size = xs.length + 1 := by have := rs.length; simpa using this
  refine Exists.elim (rs.get (i := xs.length) (x := x) (by simp)) ?_; rintro v hq0
  have hv' : vs[vs.size - 1]? = some v := by rw [el]; simpa using hq0.1
  have et : (vs.eraseIdxIfInBounds (vs.size - 1)).toList = vs.toList.take xs.length := by
    refine Array.toList_eraseIdxIfInBounds ▸ ?_; refine el ▸ ?_
    refine (Eq.symm (show xs.length + 1 - 1 = xs.length by solve_by_elim (maxDepth := 2) [i1, i2, i3, i4, i5, i6, i7, i8])) ▸ ?_
    have hl : vs.toList.length = xs.length + 1 := by exact el
    simp only [List.eraseIdx_eq_take_drop_succ]
    rw [List.drop_of_length_le (by lia)]; simp
  obtain ⟨G', S'⟩ := setL (f := fun x => x.eraseIdxIfInBounds (vs.size - 1)) (ys := xs) G e ho (by
    have := congrArg List.length et
    simp only [List.length_take] at this
    skip
    refine Array.length_toList ▸ ?_; lia) (by
    show Reals s.heap (C.D σ) (vs.eraseIdxIfInBounds (vs.size - 1)).toList xs
    rw [et]
    have := Reals.take xs.length rs
    simpa using this)
  exact call_meets F.slot_list_pop ⟨_, ho, rfl⟩ F.entry_list_pop (F.args_list_pop_1 _) (PySem.MeetsSeq.list_pop_last l vs n v hv' (sz hz)) ⟨ho, _, G', S', x, hq0.2.step G S', q⟩
/-! dicts that change -/
theorem setD {l : Addr} {xs ys : List (Int × V)} {kvs : List (Int × Value)} {h' : Heap} {tk : Nat} (G : Good C σ ls s) (e : σ l = some (.dict false xs)) (hd : h'.DictOf (intKind C.W.prog C.W.w) l kvs) (hs : Heap.SameBut l s.heap h')
    (p : Par s.heap (C.D σ) kvs ys) (hz : ys.length ≤ 2 ^ 24) : Good C (σ.upd l (.dict false ys)) ls { s with heap := h', toks := tk } ∧ Step C.own s.heap σ h' (σ.upd l (.dict false ys)) := by
  have S := Step.setCell (own := C.own) (c' := .dict false ys) e rfl hs
  refine Exists.elim (dictObj_of (D := C.D (σ.upd l (.dict false ys))) (xs := ys) hd ⟨p.1, p.2.leaves (G.leaves S)⟩) fun es' hx => ?_; obtain ⟨n', hq0⟩ := hx
  exact ⟨G.setCell e rfl hs ⟨es', n', hq0.1, by (first | lia | omega), hq0.2.2.1, hq0.2.2.2⟩, S⟩
theorem cellD {l : Addr} {xs : List (Int × V)} (G : Good C σ ls s) {ro : Bool} (e : σ l = some (.dict ro xs)) : ∃ kvs, s.heap.DictOf (intKind C.W.prog C.W.w) l kvs ∧ Par s.heap (C.D σ) kvs xs ∧ xs.length ≤ 2 ^ 24 ∧ (kvs.map (·.1)).Nodup := by
  obtain ⟨ds, n, ho, hz, hn, rs⟩ := G.sim l _ e
  obtain ⟨kvs, hq0⟩ := dictOf_of (prog := C.W.prog) (w := C.W.w) ho hn rs
  exact ⟨kvs, hq0.1, ⟨hq0.2.1, hq0.2.2⟩, by have := rs.length; simp at this; (first | lia | omega), (hq0.2.1 ▸ hn)⟩
theorem g_popD (G : Good C σ ls s) {l : Addr} {k : Int} {xs : List (Int × V)} {Q : Post} {more : List Value} (hm : more = [] ∨ ∃ d, more = [d]) (ra : Real s.heap (C.D σ) a (.ref l)) (rb : Real s.heap (C.D σ) b (.int k)) (e : σ l = some (.dict false xs)) (hx : lookD k xs = some x) (q : Q x (σ.upd l (.dict false (dropD k xs)))) :
    TrE C ls (call (.builtin "dict.pop") (a :: b :: more)) (RV C Q) σ s := by
  obtain rfl := ra.ref_i
  obtain ⟨t, rfl⟩ := rb.int_i
  obtain ⟨kvs, da, p, hz, hn⟩ := cellD G e
  have hlen := p.length
  rcases valueAt_of p.1 p.2 k with ⟨_, h2⟩ | ⟨v, x', h1, h2, rv⟩
  · exact nn (Eq.trans (Eq.symm h2) hx)
  cases Eq.trans (Eq.symm h2) hx
  refine call_meetsIn F.slot_dict_pop da.mapOf.typeIs F.entry_dict_pop ?_ (meets_dict_pop_there (intKind _ _) l (intKind_is _ _ k t) more hm rfl) ⟨kvs, v, da, sz (by lia), h1, fun h' hd' hs' => ?_⟩
  · rcases hm with rfl | ⟨d, rfl⟩
    · exact F.args_dict_pop_2 _ _
    · exact F.args_dict_pop_3 _ _ _
  · simp only [without_eq k hn] at hd'
    have hq0 := setD (tk := s.toks + 1) (ys := dropD k xs) G e hd' hs' p.drop (Nat.le_trans dropD_length_le hz)
    exact ⟨_, hq0.1, hq0.2, x, rv.step G hq0.2, q⟩
theorem g_setItem (G : Good C σ ls s) {l : Addr} {k : Int} {xs : List (Int × V)} {v : Value} {Q : View → Prop} (ra : Real s.heap (C.D σ) a (.ref l)) (rb : Real s.heap (C.D σ) b (.int k)) (rv : Real s.heap (C.D σ) v x) (e : σ l = some (.dict false xs)) (hl : xs.length < big)
    (q : Q (σ.upd l (.dict false (putD k x xs)))) : TrE C ls (setItem a b v) (fun _ σ' _ => Q σ') σ s := by
  obtain rfl := ra.ref_i
  obtain ⟨t, rfl⟩ := rb.int_i
  obtain ⟨kvs, hq1⟩ := cellD G e
  have hlen := hq1.2.1.length
  have hl' : xs.length < 2 ^ 24 := hl
  refine wpAny_setItem_pairs (intKind_is _ _ k t) hq1.1 (fun h' hd' hs' => ?_) (sz (by lia))
  simp only [stored_eq k v hq1.2.2.2] at hd'
  have hq0 := setD (tk := s.toks + 1) (ys := putD k x xs) G e hd' hs' (hq1.2.1.put rv) (Nat.le_trans putD_length_le (by assumption))
  exact ⟨_, hq0.1, hq0.2, q⟩
end
end Mine
end

section

open PySem PyProof.Rows
namespace Mine
section
variable {C : Cx} {ls : Ls} {σ : View} {s : Shared} {a b c : Value} {x y d : V}
theorem g_popD2 (R : Rm C) (G : Good C σ ls s) {l : Addr} {k : Int} {xs : List (Int × V)} {Q : Post} (ra : Real s.heap (C.D σ) a (.ref l)) (rb : Real s.heap (C.D σ) b (.int k)) (rc : Real s.heap (C.D σ) c d) (e : σ l = some (.dict false xs))
    (q : Q ((lookD k xs).getD d) (σ.upd l (.dict false (dropD k xs)))) : TrE C ls (call (.builtin "dict.pop") [a, b, c]) (RV C Q) σ s := by
  cases hx : lookD k xs with
  | some x => rw [hx] at q; exact g_popD G (.inr ⟨c, rfl⟩) ra rb e hx q
  | none =>
    rw [hx, dropD_none hx] at q
    obtain rfl := ra.ref_i
    refine Exists.elim rb.int_i fun t hx => ?_; obtain rfl := hx
    obtain ⟨kvs, hq0⟩ := cellD G e
    have h2 : 2 < l := Nat.lt_of_lt_of_le R.ok.two (G.fresh l (.inl (not_some e)))
    have hv : valueAt kvs k = none := by
      rcases valueAt_of hq0.2.1.1 hq0.2.1.2 k with ⟨h1, _⟩ | ⟨v, x', _, h2, _⟩
      · exact h1
      · rw [h2] at hx; exact nn (Eq.symm hx)
    refine call_meetsIn F.slot_dict_pop hq0.1.mapOf.typeIs F.entry_dict_pop (F.args_dict_pop_3 _ _ _) (meets_dict_pop_default (intKind _ _) l (intKind_is _ _ k t) (sysMod h2) rfl c) ⟨kvs, hq0.1, hv, ?_⟩
    have eu : σ.upd l (.dict false xs) = σ := by
      funext b; unfold View.upd; split
      · rename_i q; simp only [q, e]
      · rfl
    simp only [eu] at q
    exact ⟨σ, G.toks _, Step.refl _ _ _, d, rc, q⟩
end
end Mine
end

section
open PySem PyProof.Rows
set_option linter.unusedVariables false
namespace Mine
section
variable {C : Cx} {ls : Ls} {σ : View} {s : Shared} {a : Value} {x : V}
theorem ints_reals {h : Heap} {D : Addr → Prop} {ks : List Int} {vs : List Value} (r : Reals h D vs (ks.map .int)) : IntsAre vs ks := by
  induction ks generalizing vs with
  | nil => exact r.nil_i ▸ .nil
  | cons k ks ih =>
    obtain ⟨v, ws, rfl, a, b⟩ := r.cons_i
    refine Exists.elim a.int_i fun t hx => ?_; obtain rfl := hx
    exact .cons _ _ (ih b)
theorem reals_ints {h : Heap} {D : Addr → Prop} {ks : List Int} {vs : List Value} (r : IntsAre vs ks) : Reals h D vs (ks.map .int) := by
  induction r with
  | nil => exact .nil
  | cons n t _ ih => exact .cons (.int n t) ih
theorem noD_new (G : Good C σ ls s) {a : Addr} (h : s.heap.objs.size ≤ a) : ¬ C.D σ a := fun hd => absurd (G.toGround.lt hd) (Nat.not_lt.mpr h)
theorem g_sorted (R : Rm C) (G : Good C σ ls s) {xs : List V} {ks r : List Int} (ra : Real s.heap (C.D σ) a x) (h : lstOf σ x = some xs) (hk : ints? xs = some ks) (hs : sortV ks = some r) : Gives C ls (call (.builtin "sorted") [a]) (.lst (r.map .int)) σ s := by
  have hx := ints?_map hk
  subst hx
  obtain ⟨a', vs, n, rfl, ho, hz, rs⟩ := lst_at G ra h
  have hI := ints_reals rs
  unfold sortV at hs
  obtain ⟨⟨hp, h64⟩, rfl⟩ : (ks.Pairwise (· < ·) ∧ ks.length < 64) ∧ r = ks := by
    by_cases q : ks.Pairwise (· < ·) ∧ ks.length < 64
    · rw [if_pos q] at hs; exact ⟨q, (Option.some.inj hs).symm⟩
    · rw [if_neg q] at hs; exact nn hs
  have hlen : vs.toList.length = r.length := by have := congrArg List.length hI.nums; rw [List.length_map] at this; exact this
  have hl : s.heap.IsList a' vs.toList.toArray := isList_of ho
  refine Gives.grown G (sorted_ints hl hI (hlen ▸ h64) fun out ns' h1 h2 h3 => ?_)
  obtain rfl : ns' = r := List.Perm.eq_of_pairwise (le := fun a b : Int => a ≤ b) (fun a b _ _ h1 h2 => Int.le_antisymm h1 h2) h3 (hp.imp fun h => Int.le_of_lt h) h2
  refine ⟨⟨_, s.toks, rfl, fun b o e => sortedAll_old e⟩, fun h' _ e => ?_⟩
  subst e
  obtain ⟨e', he⟩ := sortedAll_at s.heap vs.toList out
  have hz' : out.size ≤ 2 ^ 24 := by
    have := congrArg List.length h1.nums
    rw [List.length_map] at this
    have h4 : out.size = ns'.length := this
    rw [h4, ← hlen]; exact hz
  exact .lst he hz' (noD_new G (Nat.le_succ _)) (reals_ints h1)
end
end Mine
end

section

open PySem PyProof.Rows
namespace Mine

/-! what an operation is in the model -/
noncomputable def binTok : Op → Option Operator
  | .add => some .Add
  | .sub => some .Sub
  | .mul => some .Mult
  | .div => some .FloorDiv
  | .mod => some .Mod
  | .pow => some .Pow
  | _ => none
noncomputable def cmpTok : Op → Option CmpOp
  | .eq => some .Eq
  | .ne => some .NotEq
  | .lt => some .Lt
  | .le => some .LtE
  | .gt => some .Gt
  | .ge => some .GtE
  | .isIn => some .In
  | .notIn => some .NotIn
  | .is => some .Is
  | .isNot => some .IsNot
  | _ => none
/-- built-in functions and types: the name, and the value it stands for -/
noncomputable def callTok : Op → Option (String × Value)
  | .len => some ("len", .builtin "len")
  | .max2 => some ("max", .builtin "max")
  | .sorted => some ("sorted", .builtin "sorted")
  | .list => some ("list", .type "list")
  | .tuple => some ("tuple", .type "tuple")
  | .dict => some ("dict", .type "dict")
  | .dictF => some ("dict", .type "dict")
  | .int => some ("int", .type "int")
  | _ => none
noncomputable def methTok : Op → Option (String × String × String)
  | .append => some ("append", "list", "list.append")
  | .extend => some ("extend", "list", "list.extend")
  | .popL => some ("pop", "list", "list.pop")
  | .popD2 => some ("pop", "dict", "dict.pop")
  | .get => some ("get", "dict", "dict.get")
  | .join => some ("join", "str", "str.join")
  | _ => none

/-- the tree; u, v: the expressions of a subscript -/
noncomputable def opT (u v : Expr) (o : Op) (vs : List Value) : Sem Value :=
  match binTok o, vs with
  | some t, [a, b] => binaryOp t a b
  | _, _ => match cmpTok o, vs with
    | some t, [a, b] => compareOp t a b
    | _, _ => match callTok o with
      | some (_, f) => call f vs
      | none => match methTok o with
        | some (_, _, id) => call (.builtin id) vs
        | none => match o, vs with
          | .neg, [a] => unaryOp .USub a
          | .isinst t, [a] => call (.builtin "isinstance") [a, .type t]
          | .item, [a, b] => subscriptTail u v a b
          | .slice true true, [a, l, h] => newFields "slice" [l, h, .none] >>= fun i => subscriptTail u v a i
          | .slice true false, [a, l] => newFields "slice" [l, .none, .none] >>= fun i => subscriptTail u v a i
          | .slice false true, [a, h] => newFields "slice" [.none, h, .none] >>= fun i => subscriptTail u v a i
          | .mkTup, vs => newTuple vs
          | .mkList, vs => newList vs
          | .mkListM, vs => newList vs
          | _, _ => unsupported "none"

section
variable {C : Cx} {ls : Ls} {σ : View} {s : Shared} {Q : Post}

inductive R1 (h : Heap) (D : Addr → Prop) (x : V) (vs : List Value) : Prop
  | mk (v : Value) : vs = [v] → Real h D v x → R1 h D x vs
inductive R2 (h : Heap) (D : Addr → Prop) (x y : V) (vs : List Value) : Prop
  | mk (v w : Value) : vs = [v, w] → Real h D v x → Real h D w y → R2 h D x y vs
inductive R3 (h : Heap) (D : Addr → Prop) (x y z : V) (vs : List Value) : Prop
  | mk (v w u : Value) : vs = [v, w, u] → Real h D v x → Real h D w y → Real h D u z → R3 h D x y z vs
theorem Reals.one {h : Heap} {D : Addr → Prop} {vs : List Value} {x : V} (r : Reals h D vs [x]) : R1 h D x vs := by
  cases r with | cons r1 r2 => obtain rfl := r2.nil_i; exact ⟨_, rfl, r1⟩
theorem Reals.two {h : Heap} {D : Addr → Prop} {vs : List Value} {x y : V} (r : Reals h D vs [x, y]) : R2 h D x y vs := by
  cases r with | cons r1 r2 => obtain ⟨w, rfl, r3⟩ := r2.one; exact ⟨_, _, rfl, r1, r3⟩
theorem Reals.three {h : Heap} {D : Addr → Prop} {vs : List Value} {x y z : V} (r : Reals h D vs [x, y, z]) : R3 h D x y z vs := by
  cases r with | cons r1 r2 => obtain ⟨w, u, rfl, r3, r4⟩ := r2.two; exact ⟨_, _, _, rfl, r1, r3, r4⟩

theorem ord_two {f : Int → Int → Bool} {g : Str → Str → Bool} {xs : List V} {d : V} (h : ordV f g xs = some d) : ∃ x y, xs = [x, y] := by
  refine Exists.elim (on2_some h) fun x hx => ?_; obtain ⟨y, hq0⟩ := hx; exact ⟨x, y, hq0.1⟩
theorem cmp_no_bin {o : Op} (h : (cmpTok o).isSome = true) : binTok o = none := by cases o <;> first | rfl | exact ff h
theorem call_no_bin {o : Op} (h : (callTok o).isSome = true) : binTok o = none := by cases o <;> first | rfl | exact ff h
theorem call_no_cmp {o : Op} (h : (callTok o).isSome = true) : cmpTok o = none := by cases o <;> first | rfl | exact ff h
theorem meth_no_bin {o : Op} (h : (methTok o).isSome = true) : binTok o = none := by cases o <;> first | rfl | exact ff h
theorem meth_no_cmp {o : Op} (h : (methTok o).isSome = true) : cmpTok o = none := by cases o <;> first | rfl | exact ff h
theorem meth_no_call {o : Op} (h : (methTok o).isSome = true) : callTok o = none := by cases o <;> first | rfl | exact ff h
theorem opT_bin {u v : Expr} {o : Op} {t : Operator} {a b : Value} (h : binTok o = some t) : opT u v o [a, b] = binaryOp t a b := by unfold opT; rw [h]
theorem opT_cmp {u v : Expr} {o : Op} {t : CmpOp} {a b : Value} (h : cmpTok o = some t) : opT u v o [a, b] = compareOp t a b := by unfold opT; rw [cmp_no_bin (by rw [h]; rfl), h]
theorem opT_call {u v : Expr} {o : Op} {n : String} {f : Value} {vs : List Value} (h : callTok o = some (n, f)) : opT u v o vs = call f vs := by unfold opT; rw [call_no_bin (by rw [h]; rfl), call_no_cmp (by rw [h]; rfl), h]
theorem opT_meth {u v : Expr} {o : Op} {n t id : String} {vs : List Value} (h : methTok o = some (n, t, id)) : opT u v o vs = call (.builtin id) vs := by unfold opT; rw [meth_no_bin (by rw [h]; rfl), meth_no_cmp (by rw [h]; rfl), meth_no_call (by rw [h]; rfl), h]
section
variable {h : Heap} {D : Addr → Prop} {vs : List Value} {xs : List V} {d : V} {p : List Value → Prop}
theorem use1 {f : V → Option V} (rs : Reals h D vs xs) (hd : on1 f xs = some d) (k : ∀ x a, f x = some d → Real h D a x → p [a]) : p vs := by
  refine Exists.elim (on1_some hd) fun x hx => ?_; obtain ⟨rfl, hd⟩ := hx; obtain ⟨a, rfl, ra⟩ := rs.one; exact k x a (by assumption) ra
theorem use2 {f : V → V → Option V} (rs : Reals h D vs xs) (hd : on2 f xs = some d) (k : ∀ x y a b, f x y = some d → Real h D a x → Real h D b y → p [a, b]) : p vs := by
  refine Exists.elim (on2_some hd) fun x hx => ?_; obtain ⟨y, rfl, hd⟩ := hx; obtain ⟨a, b, rfl, ra, rb⟩ := rs.two; exact k x y a b (by assumption) ra rb
theorem use3 {f : V → V → V → Option V} (rs : Reals h D vs xs) (hd : on3 f xs = some d) (k : ∀ x y z a b c, f x y z = some d → Real h D a x → Real h D b y → Real h D c z → p [a, b, c]) : p vs := by
  refine Exists.elim (on3_some hd) fun x hx => ?_; obtain ⟨y, z, rfl, hd⟩ := hx; obtain ⟨a, b, c, rfl, ra, rb, rc⟩ := rs.three; exact k x y z a b c (by assumption) ra rb rc
theorem useI2 {f : Int → Int → Option V} (rs : Reals h D vs xs) (hd : on2 (int2 f) xs = some d) (k : ∀ m n a b, f m n = some d → Real h D a (.int m) → Real h D b (.int n) → p [a, b]) : p vs :=
  use2 rs hd fun x y a b e ra rb => by
    refine Exists.elim (int2_some e) fun m hx => ?_; obtain ⟨n, rfl, rfl, e⟩ := hx; exact k m n a b e ra rb
theorem useI1 {f : Int → Option V} (rs : Reals h D vs xs) (hd : on1 (int1 f) xs = some d) (k : ∀ m a, f m = some d → Real h D a (.int m) → p [a]) : p vs :=
  use1 rs hd fun x a e ra => by
    refine Exists.elim (int1_some e) fun m hx => ?_; obtain ⟨rfl, e⟩ := hx; exact k m a e ra
theorem useM1 {α : Type} {g : V → Option α} {w : α → V} (rs : Reals h D vs xs) (hd : on1 (fun x => (g x).map w) xs = some d) (k : ∀ x a r, g x = some r → Real h D a x → d = w r → p [a]) : p vs :=
  use1 rs hd fun x a e ra => by
    obtain ⟨r, hq0⟩ := Option.map_eq_some_iff.mp e; exact k x a r hq0.1 ra hq0.2.symm
theorem useM2 {α : Type} {g : V → V → Option α} {w : α → V} (rs : Reals h D vs xs) (hd : on2 (fun x y => (g x y).map w) xs = some d) (k : ∀ x y a b r, g x y = some r → Real h D a x → Real h D b y → d = w r → p [a, b]) : p vs :=
  use2 rs hd fun x y a b e ra rb => by
    obtain ⟨r, hq0⟩ := Option.map_eq_some_iff.mp e; exact k x y a b r hq0.1 ra rb hq0.2.symm
end
theorem pure_sound (R : Rm C) (G : Good C σ ls s) (u v : Expr) {o : Op} {vs : List Value} {xs : List V} {d : V} (rs : Reals s.heap (C.D σ) vs xs) (hd : pureOp o σ xs = some d) (ht : ∀ t, o = .isinst t → t ∈ types) : Gives C ls (opT u v o vs) d σ s := by
  cases o with
  | add => exact use2 (p := fun vs => Gives C ls (opT u v .add vs) d σ s) rs hd fun x y a b e ra rb => g_add G ra rb e
  | sub => exact useI2 (p := fun vs => Gives C ls (opT u v .sub vs) d σ s) rs hd fun m n a b e ra rb => by cases e; exact g_sub G ra rb
  | mul => exact use2 (p := fun vs => Gives C ls (opT u v .mul vs) d σ s) rs hd fun x y a b e ra rb => g_mul G ra rb e
  | div => exact useI2 (p := fun vs => Gives C ls (opT u v .div vs) d σ s) rs hd fun m n a b e ra rb => by obtain ⟨hh, rfl⟩ := ite_some e; exact g_div G ra rb hh.1 hh.2
  | mod => exact useI2 (p := fun vs => Gives C ls (opT u v .mod vs) d σ s) rs hd fun m n a b e ra rb => by obtain ⟨hh, rfl⟩ := ite_some e; exact g_mod G ra rb hh
  | pow => exact useI2 (p := fun vs => Gives C ls (opT u v .pow vs) d σ s) rs hd fun m n a b e ra rb => by obtain ⟨hh, rfl⟩ := ite_some e; exact g_pow G ra rb hh.1 hh.2.1 hh.2.2.1 hh.2.2.2
  | neg => exact useI1 (p := fun vs => Gives C ls (opT u v .neg vs) d σ s) rs hd fun m a e ra => by cases e; exact g_neg G ra
  | eq => exact useM2 (p := fun vs => Gives C ls (opT u v .eq vs) d σ s) rs hd fun x y a b r hr ra rb e => by subst e; exact (g_eqB R G ra rb hr).1
  | ne => exact useM2 (p := fun vs => Gives C ls (opT u v .ne vs) d σ s) rs hd fun x y a b r hr ra rb e => by subst e; exact (g_eqB R G ra rb hr).2
  | lt =>
    have hl : ∃ x y, xs = [x, y] := ord_two hd
    obtain ⟨x, y, rfl⟩ := hl
    obtain ⟨a, b, rfl, ra, rb⟩ := rs.two; exact g_lt G ra rb hd
  | le =>
    have hl : ∃ x y, xs = [x, y] := ord_two hd
    obtain ⟨x, y, rfl⟩ := hl
    obtain ⟨a, b, rfl, ra, rb⟩ := rs.two; exact g_le G ra rb hd
  | gt => exact useI2 (p := fun vs => Gives C ls (opT u v .gt vs) d σ s) rs hd fun m n a b e ra rb => by cases e; exact g_gt G ra rb
  | ge => exact useI2 (p := fun vs => Gives C ls (opT u v .ge vs) d σ s) rs hd fun m n a b e ra rb => by cases e; exact g_ge G ra rb
  | isIn => exact useM2 (p := fun vs => Gives C ls (opT u v .isIn vs) d σ s) rs hd fun x y a b r hr ra rb e => by subst e; exact (g_inB R G ra rb hr).1
  | notIn => exact useM2 (p := fun vs => Gives C ls (opT u v .notIn vs) d σ s) rs hd fun x y a b r hr ra rb e => by subst e; exact (g_inB R G ra rb hr).2
  | is => exact useM2 (p := fun vs => Gives C ls (opT u v .is vs) d σ s) rs hd fun x y a b r hr ra rb e => by subst e; exact g_is G ra rb hr
  | isNot => exact useM2 (p := fun vs => Gives C ls (opT u v .isNot vs) d σ s) rs hd fun x y a b r hr ra rb e => by subst e; exact g_isNot G ra rb hr
  | len => exact useM1 (p := fun vs => Gives C ls (opT u v .len vs) d σ s) rs hd fun x a r hr ra e => by subst e; exact g_len R G ra hr
  | isinst t => exact useM1 (p := fun vs => Gives C ls (opT u v (.isinst t) vs) d σ s) rs hd fun x a r hr ra e => by subst e; exact g_isinst G (ht _ rfl) ra hr
  | list => exact useM1 (p := fun vs => Gives C ls (opT u v .list vs) d σ s) rs hd fun x a r hr ra e => by subst e; exact g_list R G ra hr
  | tuple => exact useM1 (p := fun vs => Gives C ls (opT u v .tuple vs) d σ s) rs hd fun x a r hr ra e => by subst e; exact g_tuple G ra hr
  | dictF => exact useM1 (p := fun vs => Gives C ls (opT u v .dictF vs) d σ s) rs hd fun x a r hr ra e => by subst e; exact g_dictF R G ra hr
  | max2 => exact useI2 (p := fun vs => Gives C ls (opT u v .max2 vs) d σ s) rs hd fun m n a b e ra rb => by cases e; exact g_max2 R G ra rb
  | int => exact use1 (p := fun vs => Gives C ls (opT u v .int vs) d σ s) rs hd fun x a e ra => by refine Exists.elim (bool1_some e) fun m hx => ?_; obtain ⟨rfl, e⟩ := hx; cases e; exact g_int G ra
  | get => exact use2 (p := fun vs => Gives C ls (opT u v .get vs) d σ s) rs hd fun x y a b e ra rb => by obtain ⟨k, rfl, e⟩ := int1_some e; obtain ⟨r, hr, rfl⟩ := Option.map_eq_some_iff.mp e; exact g_get R G ra rb hr
  | join => exact use2 (p := fun vs => Gives C ls (opT u v .join vs) d σ s) rs hd fun x y a b e ra rb => by obtain ⟨k, rfl, e⟩ := str1_some e; obtain ⟨xs, hx, e⟩ := Option.bind_eq_some_iff.mp e; obtain ⟨ss, hss, e⟩ := Option.bind_eq_some_iff.mp e; obtain ⟨hh, rfl⟩ := ite_some e; exact g_join G ra rb hx hss hh.1 hh.2
  | item => exact use2 (p := fun vs => Gives C ls (opT u v .item vs) d σ s) rs hd fun x y a b e ra rb => g_itemT R G ra rb e
  | slice lo hi =>
    cases lo <;> cases hi
    · exact nn hd
    · exact use2 (p := fun vs => Gives C ls (opT u v (.slice false true) vs) d σ s) rs hd fun x y a b e ra rb => by refine Exists.elim (int1_some e) fun k hx => ?_; obtain ⟨rfl, e⟩ := hx; obtain ⟨_, rfl⟩ := rb.int_i; exact g_slice R G (lo := none) (hi := some _) ra .none (.int _ _) e
    · exact use2 (p := fun vs => Gives C ls (opT u v (.slice true false) vs) d σ s) rs hd fun x y a b e ra rb => by refine Exists.elim (int1_some e) fun k hx => ?_; obtain ⟨rfl, e⟩ := hx; obtain ⟨_, rfl⟩ := rb.int_i; exact g_slice R G (lo := some _) (hi := none) ra (.int _ _) .none e
    · exact use3 (p := fun vs => Gives C ls (opT u v (.slice true true) vs) d σ s) rs hd fun x y z a b c e ra rb rc => by refine Exists.elim (int2_some e) fun k hx => ?_; obtain ⟨k', rfl, rfl, e⟩ := hx; obtain ⟨_, rfl⟩ := rb.int_i; obtain ⟨_, rfl⟩ := rc.int_i; exact g_slice R G (lo := some _) (hi := some _) ra (.int _ _) (.int _ _) e
  | sorted => exact use1 (p := fun vs => Gives C ls (opT u v .sorted vs) d σ s) rs hd fun x a e ra => by simp only [Option.bind_eq_some_iff, Option.map_eq_some_iff] at e; obtain ⟨r, hr, ks, hk, q, hq, rfl⟩ := e; exact g_sorted R G ra hr hk hq
  | mkTup => obtain ⟨hh, rfl⟩ := ite_some hd; exact g_mkTup G rs hh
  | mkList => obtain ⟨hh, rfl⟩ := ite_some hd; exact g_mkList G rs hh
  | _ => exact nn hd
theorem pure_then (R : Rm C) (G : Good C σ ls s) (u v : Expr) {o : Op} {vs : List Value} {xs : List V} (rs : Reals s.heap (C.D σ) vs xs) (h : ∃ d, pureOp o σ xs = some d ∧ Q d σ) (ht : ∀ t, o = .isinst t → t ∈ types) : TrE C ls (opT u v o vs) (RV C Q) σ s := by
  refine Exists.elim h ?_; rintro d hq0
  exact (pure_sound R G u v rs hq0.1 ht).then hq0.2
theorem prim_sound (R : Rm C) (G : Good C σ ls s) (u v : Expr) {o : Op} {vs : List Value} {xs : List V} (rs : Reals s.heap (C.D σ) vs xs) (h : prim o xs Q σ) (ht : ∀ t, o = .isinst t → t ∈ types) : TrE C ls (opT u v o vs) (RV C Q) σ s := by
  cases o with
  | dict =>
    obtain ⟨x, rfl, ys, hq2⟩ := q1_inv h
    obtain ⟨a, rfl, ra⟩ := rs.one; exact g_dict R G ra hq2.1 hq2.2
  | append =>
    obtain ⟨x, y, rfl, h⟩ := q2_inv h
    obtain ⟨r, rfl, ys, hq1⟩ := onR_inv h
    obtain ⟨a, b, rfl, ra, rb⟩ := rs.two; exact g_append G ra rb hq1.1 hq1.2.1 hq1.2.2
  | extend =>
    obtain ⟨x, y, rfl, h⟩ := q2_inv h
    obtain ⟨r, rfl, h⟩ := onR_inv h
    obtain ⟨l, rfl, ys, hy, hl, q⟩ := onL_inv h
    obtain ⟨a, b, rfl, ra, rb⟩ := rs.two; exact g_extend G ra rb hy hl q
  | popL =>
    obtain ⟨x, rfl, h⟩ := q1_inv h
    obtain ⟨r, rfl, ys, y, hy, q⟩ := onR_inv h
    obtain ⟨a, rfl, ra⟩ := rs.one; exact g_popL G ra hy q
  | popD2 =>
    obtain ⟨x, y, z, rfl, h⟩ := q3_inv h
    obtain ⟨r, rfl, h⟩ := onR_inv h
    obtain ⟨l, rfl, ys, hy, q⟩ := onI_inv h
    obtain ⟨a, b, c, rfl, ra, rb, rc⟩ := rs.three; exact g_popD2 R G ra rb rc hy q
  | mkListM => exact g_mkListM G rs h.1 h.2
  | _ => exact pure_then R G u v rs h ht
end
end Mine
end

section

open PySem PyProof.Rows
namespace Mine

structure Sc where
  names : List (Str × NameKind)
  vars : List Str
/-- the block's tables -/
structure Sc.Of (S : Sc) (C : Cx) : Prop where
  names : C.env.scope.names = S.names
  vars : C.vars = S.vars

noncomputable def glob (S : Sc) (x : Str) : Bool := S.names.lookup x == some .globalImplicit && !(x == ("__debug__" : Str))
noncomputable def noStar : List Expr → Bool
  | [] => true
  | .Starred _ _ :: _ => false
  | _ :: r => noStar r
noncomputable def notSet : Expr → Bool
  | .Set _ _ _ => false
  | _ => true
theorem notSet_marks {op : CmpOp} {r : Expr} (h : notSet r = true) : behindInMarks op r = false := by
  cases r <;> first | rfl | exact ff h
noncomputable def blts : List String := ["len", "all", "max", "min", "sorted", "list", "tuple", "dict", "int", "str", "bool", "isinstance", "range", "enumerate", "reversed"]
noncomputable def bval : String → Value
  | "list" => .type "list"
  | "tuple" => .type "tuple"
  | "dict" => .type "dict"
  | "int" => .type "int"
  | "str" => .type "str"
  | "bool" => .type "bool"
  | "range" => .type "range"
  | "enumerate" => .type "enumerate"
  | "reversed" => .type "reversed"
  | n => .builtin n
theorem boot_blts : ∀ n ∈ blts, bootBuiltins (Str.ofString n) = some (bval n) ∧ Str.ofString n ≠ ("__name__" : Str) := by decide +kernel
noncomputable def Blt (W : Wd) : Prop := ∀ n ∈ blts, W.mg (Str.ofString n) = none

noncomputable def instT : Op → Option String
  | .isinst t => some t
  | _ => none
theorem instT_inv {o : Op} {t : String} (h : instT o = some t) : o = .isinst t := by
  cases o <;> first | exact nn h | (cases Option.some.inj h; rfl)
noncomputable def instArgs (S : Sc) (f : Str) (t : String) : List Expr → Option (List Expr)
  | [x, .Name y _] => if f = Str.ofString "isinstance" ∧ glob S f = true ∧ y = Str.ofString t ∧ glob S y = true ∧ t ∈ types ∧ noStar [x] = true then some [x] else none
  | _ => none
theorem ite_some' {α : Type} {c : Prop} [Decidable c] {a d : α} (e : (if c then some a else none) = some d) : c ∧ d = a := by
  split at e
  · exact ⟨by assumption, (Option.some.inj e).symm⟩
  · exact nn e
theorem instArgs_inv {S : Sc} {f : Str} {t : String} {args es : List Expr} (h : instArgs S f t args = some es) : ∃ x y py, args = [x, .Name y py] ∧ es = [x] ∧ f = Str.ofString "isinstance" ∧ glob S f = true ∧ y = Str.ofString t ∧ glob S y = true ∧ t ∈ types ∧ noStar [x] = true := by
  match args, h with
  | [], h => exact nn h
  | [x], h => exact nn h
  | [x, y], h =>
    cases y <;> first
      | exact nn h
      | (have hq0 := ite_some' h; exact ⟨_, _, _, rfl, hq0.2, hq0.1⟩)
  | x :: y :: z :: r, h => exact absurd h (by skip; cases y <;> exact fun h => nn h)
noncomputable def shp (S : Sc) (o : Op) (e : Expr) : Option (List Expr) :=
  match e with
  | .BinOp l t r _ => if binTok o = some t then some [l, r] else none
  | .UnaryOp .USub x _ => if o = .neg then some [x] else none
  | .Compare l [t] [r] _ => if cmpTok o = some t ∧ notSet r = true then some [l, r] else none
  | .Call (.Name f _) args [] _ =>
    match callTok o with
    | some (n, _) => if f = Str.ofString n ∧ glob S f = true ∧ noStar args = true ∧ args.isEmpty = false then some args else none
    | none => match instT o with
      | some t => instArgs S f t args
      | none => none
  | .Subscript value slice _ => match slice with
    | .Slice (some l) (some h) none _ => if o = .slice true true then some [value, l, h] else none
    | .Slice (some l) none none _ => if o = .slice true false then some [value, l] else none
    | .Slice none (some h) none _ => if o = .slice false true then some [value, h] else none
    | .Slice _ _ _ _ => none
    | slice => if o = .item then some [value, slice] else none
  | .Tuple elts _ _ => if o = .mkTup ∧ noStar elts = true then some elts else none
  | .List elts _ => if (o = .mkList ∨ o = .mkListM) ∧ noStar elts = true then some elts else none
  | _ => none

/-- the shapes -/
inductive ShpI (S : Sc) (o : Op) : Expr → List Expr → Prop
  | bin (l : Expr) (t : Operator) (r : Expr) (p : Pos) (h : binTok o = some t) : ShpI S o (.BinOp l t r p) [l, r]
  | neg (x : Expr) (p : Pos) (h : o = .neg) : ShpI S o (.UnaryOp .USub x p) [x]
  | cmp (l : Expr) (t : CmpOp) (r : Expr) (p : Pos) (h : cmpTok o = some t) (hs : notSet r = true) : ShpI S o (.Compare l [t] [r] p) [l, r]
  | inst (f : Str) (p : Pos) (t : String) (x : Expr) (y : Str) (py pos : Pos) (ho : o = .isinst t) (h : f = Str.ofString "isinstance" ∧ glob S f = true ∧ y = Str.ofString t ∧ glob S y = true ∧ t ∈ types ∧ noStar [x] = true) : ShpI S o (.Call (.Name f p) [x, .Name y py] [] pos) [x]
  | call (f : Str) (p : Pos) (args : List Expr) (pos : Pos) (n : String) (v : Value) (hc : callTok o = some (n, v)) (h : f = Str.ofString n ∧ glob S f = true ∧ noStar args = true ∧ args.isEmpty = false) : ShpI S o (.Call (.Name f p) args [] pos) args
  | sl11 (value l h : Expr) (p pos : Pos) (ho : o = .slice true true) : ShpI S o (.Subscript value (.Slice (some l) (some h) none p) pos) [value, l, h]
  | sl10 (value l : Expr) (p pos : Pos) (ho : o = .slice true false) : ShpI S o (.Subscript value (.Slice (some l) none none p) pos) [value, l]
  | sl01 (value h : Expr) (p pos : Pos) (ho : o = .slice false true) : ShpI S o (.Subscript value (.Slice none (some h) none p) pos) [value, h]
  | item (value slice : Expr) (pos : Pos) (ho : o = .item) : ShpI S o (.Subscript value slice pos) [value, slice]
  | tup (elts : List Expr) (k : Nat) (pos : Pos) (ho : o = .mkTup) (hs : noStar elts = true) : ShpI S o (.Tuple elts k pos) elts
  | lst (elts : List Expr) (pos : Pos) (ho : o = .mkList ∨ o = .mkListM) (hs : noStar elts = true) : ShpI S o (.List elts pos) elts
theorem shp_inv {S : Sc} {o : Op} {e : Expr} {es : List Expr} (h : shp S o e = some es) : ShpI S o e es := by
  have no : ∀ {P : Prop}, (none : Option (List Expr)) = some es → P := fun h => (nn h)
  cases e with
  | BinOp l t r p => obtain ⟨h1, rfl⟩ := ite_some' (show (if binTok o = some t then some [l, r] else none) = some es from h); exact .bin l t r p h1
  | UnaryOp u x p =>
    cases u with
    | USub => obtain ⟨h1, rfl⟩ := ite_some' (show (if o = .neg then some [x] else none) = some es from h); exact .neg x p h1
    | _ => exact no h
  | Compare l ts rs p =>
    cases ts with
    | nil => exact no h
    | cons t ts =>
      cases ts with
      | cons _ _ => exact no h
      | nil =>
        cases rs with
        | nil => exact no h
        | cons r rs =>
          cases rs with
          | cons _ _ => exact no h
          | nil => obtain ⟨h1, rfl⟩ := ite_some' (show (if cmpTok o = some t ∧ notSet r = true then some [l, r] else none) = some es from h); exact .cmp l t r p h1.1 h1.2
  | Call f args kw pos =>
    cases f with
    | Name f p =>
      cases kw with
      | cons _ _ => exact no h
      | nil =>
        have h : (match callTok o with
            | some (n, _) => if f = Str.ofString n ∧ glob S f = true ∧ noStar args = true ∧ args.isEmpty = false then some args else none
            | none => match instT o with
              | some t => instArgs S f t args
              | none => none) = some es := h
        cases hc : callTok o with
        | some nv =>
          replace h := hc ▸ h
          obtain ⟨h1, rfl⟩ := ite_some' h
          exact .call f p es pos nv.1 nv.2 hc h1
        | none =>
          replace h := hc ▸ h
          cases hi : instT o with
          | none => simp only [hi] at h; exact no h
          | some t =>
            simp only [hi] at h
            refine Exists.elim (instArgs_inv h) fun x hx => ?_; obtain ⟨y, py, rfl, rfl, h2⟩ := hx
            exact .inst f p t x y py pos (instT_inv hi) h2
    | _ => exact no h
  | Subscript value slice pos =>
    cases slice with
    | Slice a b c p =>
      cases a <;> cases b <;> cases c <;> first
        | exact no h
        | (obtain ⟨h1, rfl⟩ := ite_some' h; first | exact .sl11 _ _ _ _ _ h1 | exact .sl10 _ _ _ _ h1 | exact .sl01 _ _ _ _ h1)
    | _ => obtain ⟨h1, rfl⟩ := ite_some' h; exact .item _ _ _ h1
  | Tuple elts k pos => obtain ⟨h1, rfl⟩ := ite_some' h; exact .tup _ _ _ h1.1 h1.2
  | List elts pos => obtain ⟨h1, rfl⟩ := ite_some' h; exact .lst _ _ h1.1 h1.2
  | _ => exact no h

/-- expressions one after the other -/
noncomputable def Ev (C : Cx) (ls : Ls) : List Expr → (List Value → View → Shared → Prop) → View → Shared → Prop
  | [], K => fun σ s => K [] σ s
  | e :: es, K => fun σ s => TrE C ls (eval e C.env) (fun v σ' s' => Ev C ls es (fun vs => K (v :: vs)) σ' s') σ s

section
variable {C : Cx} {ls : Ls} {σ : View} {s : Shared} {S : Sc}

theorem starEach_cons {env : Env} {e : Expr} {r : List Expr} (h : noStar (e :: r) = true) : starEach (e :: r) env = (false, eval e env) :: starEach r env ∧ noStar r = true := by
  cases e <;> first | exact ⟨rfl, h⟩ | exact ff h
theorem starEach_noStar {env : Env} {es : List Expr} (h : noStar es = true) : starEach es env = es.map fun e => (false, eval e env) := by
  induction es with
  | nil => rfl
  | cons e r ih => have hq0 := starEach_cons (env := env) h; simp only [hq0.1, ih hq0.2, List.map_cons]
theorem backTo_noStar {pos : Pos} {env : Env} (es : List Expr) : backTo pos (es.map fun e => (false, eval e env)) = es.map fun e => (false, eval e env) := by
  dsimp only [backTo]; simp

theorem spliced_ev : ∀ {es : List Expr} {K : List Value → View → Shared → Prop} {σ : View} {s : Shared}, Good C σ ls s → Ev C ls es K σ s → TrE C ls (spliced (es.map fun e => (false, eval e C.env))) K σ s
  | [], K, σ, s, G, h => by rw [List.map_nil, spliced]; exact TrE.pure G h
  | e :: es, K, σ, s, G, h => by
    rw [List.map_cons]
    refine PySem.Calls.spliced_cons (wpAny_mono h (fun v s₁ ⟨σ₁, G₁, S₁, h₁⟩ => ?_) fun _ _ x => x)
    exact wpAny_mono (spliced_ev G₁ h₁) (fun vs s₂ ⟨σ₂, G₂, S₂, h₂⟩ => ⟨σ₂, G₂, S₁.trans S₂, h₂⟩) fun _ _ x => x

theorem kindOf_eq (h : S.Of C) (x : Str) : C.env.kindOf x = S.names.lookup x := by unfold Env.kindOf; rw [h.names]
theorem load_global {x : Str} {pos : Pos} {v : Value} {Q : Value → Shared → Prop} (hS : S.Of C) (hg : glob S x = true) (G : Good C σ ls s) (W : C.W.Ok) (hv : C.W.mg x = some v) (h : Q v s) :
    wpAny (model C.W.prog C.W.w) C.A (eval (.Name x pos) C.env) Q (fun _ _ => False) s := by
  unfold glob at hg
  simp only [Bool.and_eq_true, beq_iff_eq, Bool.not_eq_true'] at hg
  refine PySem.Calls.Name_function_global G.fr.kind (by rw [kindOf_eq hS]; exact hg.1) ?_ hg.2
  exact PySem.Calls.loadGlobal_global (mg := C.W.mg) ((G.fr.glob ▸ (W.top.g.keeps G.stays))) hv h
theorem load_blt {n : String} {pos : Pos} {Q : Value → Shared → Prop} (hS : S.Of C) (hg : glob S (Str.ofString n) = true) (hn : n ∈ blts) (G : Good C σ ls s) (W : C.W.Ok) (B : Blt C.W) (h : Q (bval n) s) :
    wpAny (model C.W.prog C.W.w) C.A (eval (.Name (Str.ofString n) pos) C.env) Q (fun _ _ => False) s := by
  unfold glob at hg
  simp only [Bool.and_eq_true, beq_iff_eq, Bool.not_eq_true'] at hg
  refine PySem.Calls.Name_function_global G.fr.kind (by rw [kindOf_eq hS]; exact hg.1) ?_ hg.2
  have hq0 := boot_blts n hn
  exact PySem.Calls.loadGlobal_builtin (mg := C.W.mg) (mb := C.W.mb) (by rw [G.fr.glob]; exact W.top.g.keeps G.stays) (B n hn) (by rw [G.fr.blt]; exact W.top.b.keeps G.stays) (((W.top.builtins _ hq0.2) ▸ hq0.1)) h

theorem callTok_val {o : Op} {n : String} {f : Value} (h : callTok o = some (n, f)) : n ∈ blts ∧ bval n = f := by
  cases o <;> first
    | exact nn h
    | (obtain ⟨h1, h2⟩ := Prod.mk.inj (Option.some.inj h); subst h1; subst h2; exact ⟨by decide, rfl⟩)
theorem callTok_kind {o : Op} {n : String} {f : Value} (h : callTok o = some (n, f)) : (∃ id, f = .builtin id) ∨ ∃ T, f = .type T := by
  cases o <;> first
    | exact nn h
    | (obtain ⟨h1, h2⟩ := Prod.mk.inj (Option.some.inj h); subst h2; first | exact .inl ⟨_, rfl⟩ | exact .inr ⟨_, rfl⟩)
theorem callWith_args {pos : Pos} {f : Value} {args : List Expr} {Q : Value → View → Shared → Prop} (hk : (∃ id, f = .builtin id) ∨ ∃ T, f = .type T) (hn : args.isEmpty = false) (G : Good C σ ls s)
    (h : Ev C ls args (fun vs σ' s' => TrE C ls (call f vs) Q σ' s') σ s) : TrE C ls (callWith pos f [] (args.map fun e => (false, eval e C.env)) []) Q σ s := by
  have hs := spliced_ev G h
  have hsp : wpAny (model C.W.prog C.W.w) C.A (spliced (args.map fun e => (false, eval e C.env))) (fun vs s₁ => wpAny (model C.W.prog C.W.w) C.A (call f ([] ++ vs)) (EOut C ls Q s.heap σ) (fun _ _ => False) s₁) (fun _ _ => False) s :=
    wpAny_mono hs (fun vs s₁ hx => by obtain ⟨σ₁, G₁, S₁, h₁⟩ := hx; exact wpAny_mono h₁ (fun v s₂ hx => by obtain ⟨σ₂, G₂, S₂, q⟩ := hx; exact ⟨σ₂, G₂, S₁.trans S₂, q⟩) fun _ _ x => x) fun _ _ x => x
  have hp : (args.map fun e => ((false : Bool), eval e C.env)).any (·.1) = false := by simp
  cases args with
  | nil => exact ff2 hn
  | cons e es =>
    have hev : wpAny (model C.W.prog C.W.w) C.A (evalArgs f true ((e :: es).map fun e => ((false : Bool), eval e C.env)) []) (fun a s₁ => wpAny (model C.W.prog C.W.w) C.A (call f ([] ++ a.pos) a.kw) (EOut C ls Q s.heap σ) (fun _ _ => False) s₁) (fun _ _ => False) s :=
      PySem.Calls.evalArgs_plain hsp
    rcases hk with ⟨id, rfl⟩ | ⟨T, rfl⟩
    · exact PySem.Calls.callWith_builtin hp hev
    · exact PyProof.Rows.callWith_type hp hev
end
end Mine
end

section

open PySem PyProof.Rows
namespace Mine
section
variable {C : Cx} {ls : Ls} {σ : View} {s : Shared} {S : Sc}

theorem Ev.mono : ∀ {es : List Expr} {K K' : List Value → View → Shared → Prop} {σ : View} {s : Shared}, Ev C ls es K σ s → (∀ vs σ' s', K vs σ' s' → K' vs σ' s') → Ev C ls es K' σ s
  | [], _, _, _, _, h, k => k _ _ _ h
  | _ :: _, _, _, _, _, h, k => TrE.mono h fun _ _ _ _ _ h' => Ev.mono h' fun _ _ _ h'' => k _ _ _ h''
theorem tr_call {f : Str} {p pos : Pos} {args : List Expr} {v : Value} {Q : Value → View → Shared → Prop} (hst : noStar args = true)
    (hf : ∀ Q' : Value → Shared → Prop, Q' v s → wpAny (model C.W.prog C.W.w) C.A (eval (.Name f p) C.env) Q' (fun _ _ => False) s)
    (h : TrE C ls (callWith pos v [] (args.map fun e => (false, eval e C.env)) []) Q σ s) : TrE C ls (eval (.Call (.Name f p) args [] pos) C.env) Q σ s := by
  have e : eval (.Call (.Name f p) args [] pos) C.env = (do callWith pos (← eval (.Name f p) C.env) [] (backTo pos (starEach args C.env)) (backToKw pos (keywordEach [] C.env))) := rfl
  skip
  simp only [e, starEach_noStar hst, backTo_noStar]
  exact wpAny_bind (hf _ h)

theorem unnew {M : Model} {A : Around} {α : Type} {x y z : Value} {f : Value → Sem α} {Q : α → Shared → Prop} {E : Value → Shared → Prop} {s : Shared} (h : wpAny M A (newFields "slice" [x, y, z] >>= f) Q E s) :
    wpAny M A (f (.ref s.heap.objs.size)) Q E { s with heap := s.heap.push { cls := .type "slice", dict := none, data := .fields #[x, y, z] } } := fun Γ p hΓ => by
  have h1 := h Γ p hΓ
  skip
  exact h1
theorem inst_noStar {x : Expr} {y : Str} {py : Pos} (h : noStar [x] = true) : noStar [x, .Name y py] = true := by
  cases x <;> first | rfl | exact ff h
theorem types_blts {t : String} (h : t ∈ types) : t ∈ blts := by
  simp only [types, List.mem_cons, List.not_mem_nil, or_false] at h
  rcases h with rfl | rfl | rfl | rfl | rfl | rfl <;> decide
theorem types_bval {t : String} (h : t ∈ types) : bval t = .type t := by
  simp only [types, List.mem_cons, List.not_mem_nil, or_false] at h
  rcases h with rfl | rfl | rfl | rfl | rfl | rfl <;> rfl
theorem shp_sound (R : Rm C) (B : Blt C.W) (hS : S.Of C) {o : Op} {e : Expr} {es : List Expr} {Q : Value → View → Shared → Prop} (h : shp S o e = some es) (G : Good C σ ls s)
    (hv : Ev C ls es (fun vs σ' s' => ∀ u v, TrE C ls (opT u v o vs) Q σ' s') σ s) : TrE C ls (eval e C.env) Q σ s := by
  cases shp_inv h with
  | bin l t r pos ht =>
    skip
    refine TrE.bind (TrE.mono hv fun a σ₁ s₁ G₁ _ h₁ => TrE.bind (TrE.holding (TrE.mono h₁ fun b σ₂ s₂ G₂ _ h₂ => TrE.bind (TrE.standAt G₂ (TrE.operate ?_)))))
    have := h₂ default default
    rw [opT_bin ht] at this
    exact this
  | neg x pos ht =>
    subst ht
    have e : eval (.UnaryOp .USub x pos) C.env = (do let v ← eval x C.env; standAt pos; holding [v] (unaryOp .USub v)) := rfl
    skip
    exact TrE.bind (TrE.mono hv fun a σ₁ s₁ G₁ _ h₁ => TrE.bind (TrE.standAt G₁ (TrE.holding (h₁ default default))))
  | cmp l t r pos ht hs =>
    rw [eval_Compare1, markedBehindIn_of_false (notSet_marks hs)]
    refine TrE.bind (TrE.mono hv fun a σ₁ s₁ G₁ _ h₁ => TrE.bind (TrE.holding (TrE.mono h₁ fun b σ₂ s₂ G₂ _ h₂ => TrE.bind (TrE.standAt G₂ (TrE.operate ?_)))))
    have := h₂ default default
    rw [opT_cmp ht] at this
    exact this
  | inst f p t x y py pos ho hc =>
    obtain ⟨rfl, hg, rfl, hq3⟩ := hc
    subst ho
    refine tr_call (v := .builtin "isinstance") (by have hq2 := starEach_cons (env := C.env) hq3.2.2; exact inst_noStar hq3.2.2) (fun Q' hq => load_blt hS hg (by decide) G R.ok B hq) ?_
    refine callWith_args (.inl ⟨_, rfl⟩) rfl G ?_
    refine TrE.mono hv fun a σ₁ s₁ G₁ _ h₁ => ?_
    have h₁' := h₁ default default
    refine load_blt hS hq3.1 (types_blts hq3.2.1) G₁ R.ok B ⟨σ₁, G₁, Step.refl _ _ _, ?_⟩
    refine (types_bval hq3.2.1) ▸ ?_
    exact h₁'
  | call f p args pos n v hct hc =>
    obtain ⟨rfl, hq1⟩ := hc
    have hq0 := callTok_val hct
    refine tr_call (v := v) hq1.2.1 (fun Q' hq => load_blt hS hq1.1 hq0.1 G R.ok B ((hq0.2 ▸ hq))) ?_
    refine callWith_args (callTok_kind hct) hq1.2.2 G ?_
    exact Ev.mono hv fun vs σ' s' h' => ((opT_call (u := default) (v := default) hct) ▸ (h' _ _))
  | sl11 value l hh p pos ho =>
    subst ho
    refine Subscript_ (wpAny_mono hv (?_) fun _ _ x => x)
    rintro a s₁ ⟨σ₁, _, S₁, h₁⟩
    refine wpAny_Slice (wpAny_mono h₁ (fun x s₂ ⟨σ₂, _, S₂, h₂⟩ => wpAny_mono h₂ (fun y s₃ ⟨σ₃, _, S₃, h₃⟩ => ?_) fun _ _ x => x) fun _ _ x => x)
    skip
    refine wpAny_pure (wpAny_mono (unnew (h₃ value (.Slice (some l) (some hh) none p))) (fun v s' ⟨σ', G', S', q⟩ => ⟨σ', G', ((S₁.trans S₂).trans S₃).trans S', q⟩) fun _ _ x => x)
  | sl10 value l p pos ho =>
    subst ho
    refine Subscript_ (wpAny_mono hv (?_) fun _ _ x => x)
    rintro a s₁ ⟨σ₁, _, S₁, h₁⟩
    refine wpAny_Slice (wpAny_mono h₁ (fun x s₂ ⟨σ₂, _, S₂, h₂⟩ => ?_) fun _ _ x => x)
    skip
    refine wpAny_pure (wpAny_pure (wpAny_mono (unnew (h₂ value (.Slice (some l) none none p))) (fun v s' ⟨σ', G', S', q⟩ => ⟨σ', G', (S₁.trans S₂).trans S', q⟩) fun _ _ x => x))
  | sl01 value hh p pos ho =>
    subst ho
    refine Subscript_ (wpAny_mono hv (?_) fun _ _ x => x)
    rintro a s₁ ⟨σ₁, _, S₁, h₁⟩
    refine wpAny_Slice ?_
    skip
    refine wpAny_pure (wpAny_mono h₁ (?_) fun _ _ x => x)
    rintro x s₂ ⟨σ₂, _, S₂, h₂⟩
    refine wpAny_pure (wpAny_mono (unnew (h₂ value (.Slice none (some hh) none p))) (fun v s' ⟨σ', G', S', q⟩ => ⟨σ', G', (S₁.trans S₂).trans S', q⟩) fun _ _ x => x)
  | item value slice pos ho =>
    subst ho
    refine Subscript_ (wpAny_mono hv (?_) fun _ _ x => x)
    rintro a s₁ ⟨σ₁, _, S₁, h₁⟩
    refine wpAny_mono h₁ (fun i s₂ ⟨σ₂, _, S₂, h₂⟩ => ?_) fun _ _ x => x
    exact wpAny_mono (h₂ value slice) (fun v s' ⟨σ', G', S', q⟩ => ⟨σ', G', (S₁.trans S₂).trans S', q⟩) fun _ _ x => x
  | tup elts k pos ho hst =>
    subst ho
    have e : eval (.Tuple es k pos) C.env = (do standAt pos; newTuple (← spliced (backTo pos (starEach es C.env)))) := rfl
    rw [e, starEach_noStar hst, backTo_noStar]
    exact TrE.bind (TrE.standAt G (TrE.bind (TrE.mono (spliced_ev G hv) fun vs σ' s' _ _ h' => h' default default)))
  | lst elts pos ho hst =>
    have e : eval (.List es pos) C.env = (do standAt pos; newList (← spliced (backTo pos (starEach es C.env)))) := rfl
    rw [e, starEach_noStar hst, backTo_noStar]
    refine TrE.bind (TrE.standAt G (TrE.bind (TrE.mono (spliced_ev G hv) fun vs σ' s' _ _ h' => ?_)))
    have := h' default default
    rcases ho with rfl | rfl <;> exact this
end
end Mine
end

section

open PySem PyProof.Rows
namespace Mine

noncomputable def plainBase : Expr → Bool
  | .Call (.Name _ _) [] [] _ => false
  | _ => true
theorem attributeBase_plain {o : Expr} {attr : Str} {env : Env} {w : Sem Value} (h : plainBase o = true) : attributeBase o attr env w = w := by
  cases o with
  | Call f args kws pos =>
    cases f with
    | Name n p =>
      cases args with
      | nil =>
        cases kws with
        | nil => exact ff h
        | cons _ _ => rfl
      | cons _ _ => rfl
    | _ => rfl
  | _ => rfl

/-- a method's call: the object, the arguments -/
noncomputable def mshp (o : Op) (e : Expr) : Option (Expr × List Expr) :=
  match e with
  | .Call (.Attribute b name apos) args [] pos => match methTok o with
    | some (n, _, _) => if name = Str.ofString n ∧ plainBase b = true ∧ noStar args = true ∧ args.length < 29 ∧ (apos.endLine == pos.line) = true then some (b, args) else none
    | none => none
  | _ => none

theorem mshp_inv {o : Op} {e b : Expr} {args : List Expr} (h : mshp o e = some (b, args)) : ∃ name apos pos n T id, e = .Call (.Attribute b name apos) args [] pos ∧ methTok o = some (n, T, id) ∧ name = Str.ofString n ∧ plainBase b = true ∧ noStar args = true ∧ args.length < 29 ∧ (apos.endLine == pos.line) = true := by
  have no : ∀ {P : Prop}, (none : Option (Expr × List Expr)) = some (b, args) → P := fun h => (nn h)
  cases e with
  | Call f args' kw pos =>
    cases f with
    | Attribute b' name apos =>
      cases kw with
      | cons _ _ => exact no h
      | nil =>
        have h : (match methTok o with
          | some (n, _, _) => if name = Str.ofString n ∧ plainBase b' = true ∧ noStar args' = true ∧ args'.length < 29 ∧ (apos.endLine == pos.line) = true then some (b', args') else none
          | none => none) = some (b, args) := h
        cases hm : methTok o with
        | none => rw [hm] at h; exact no h
        | some x =>
          replace h := hm ▸ h
          have hq0 := ite_some' h
          obtain ⟨rfl, rfl⟩ := Prod.mk.inj hq0.2
          exact ⟨name, apos, pos, x.1, x.2.1, x.2.2, rfl, rfl, hq0.1⟩
    | _ => exact no h
  | _ => exact no h
section
variable {C : Cx} {ls : Ls} {σ : View} {s : Shared}

theorem meth_type (R : Rm C) (G : Good C σ ls s) {o : Op} {v : Value} {x : V} (r : Real s.heap (C.D σ) v x) (h : methOk o x σ) :
    ∃ n T id, methTok o = some (n, T, id) ∧ PlainAttrs T ∧ Slot T (Str.ofString n) id ∧ typeOf (.builtin id) = pure (.type "method_descriptor") ∧ s.TypeIs v T ∧ ∀ a, v = .ref a → ∃ ob, s.heap.get? a = some ob ∧ ob.dict = none := by
  have lists : ∀ {l ro xs}, x = .ref l → σ l = some (.list ro xs) → s.TypeIs v "list" ∧ ∀ a, v = .ref a → ∃ ob, s.heap.get? a = some ob ∧ ob.dict = none := by
    rintro l ro xs rfl e
    obtain rfl := r.ref_i
    obtain ⟨vs, n, ho, _⟩ := G.sim l _ e
    exact ⟨⟨_, ho, rfl⟩, fun a ea => by cases ea; exact ⟨_, ho, rfl⟩⟩
  have dicts : ∀ {es}, dicOf σ x = some es → s.TypeIs v "dict" ∧ ∀ a, v = .ref a → ∃ ob, s.heap.get? a = some ob ∧ ob.dict = none := by
    intro es hd
    obtain ⟨a', ds, n, rfl, ho, _⟩ := dic_at R.ok G r hd
    exact ⟨⟨_, ho, rfl⟩, fun a ea => by cases ea; exact ⟨_, ho, rfl⟩⟩
  cases o <;> simp only [methOk] at h <;> first
    | exact h.elim
    | (refine Exists.elim h fun l hx => ?_; obtain ⟨ro, xs, e1, e2⟩ := hx
       have hq1 := lists e1 e2
       first
         | exact ⟨_, _, _, rfl, F.plainAttrs_list, F.slot_list_append, F.type_list_append, hq1.1, hq1.2⟩
         | exact ⟨_, _, _, rfl, F.plainAttrs_list, F.slot_list_extend, F.type_list_extend, hq1.1, hq1.2⟩
         | exact ⟨_, _, _, rfl, F.plainAttrs_list, F.slot_list_pop, F.type_list_pop, hq1.1, hq1.2⟩
         | exact ⟨_, _, _, rfl, F.plainAttrs_list, F.slot_list_clear, F.type_list_clear, hq1.1, hq1.2⟩)
    | (refine Exists.elim h ?_; rintro es e1
       have hq0 := dicts e1
       first
         | exact ⟨_, _, _, rfl, F.plainAttrs_dict, F.slot_dict_get, F.type_dict_get, hq0.1, hq0.2⟩
         | exact ⟨_, _, _, rfl, F.plainAttrs_dict, F.slot_dict_pop, F.type_dict_pop, hq0.1, hq0.2⟩
         | exact ⟨_, _, _, rfl, F.plainAttrs_dict, F.slot_dict_clear, F.type_dict_clear, hq0.1, hq0.2⟩)
    | (obtain ⟨z, rfl⟩ := h
       cases r
       exact ⟨_, _, _, rfl, F.plainAttrs_str, F.slot_str_join, F.type_str_join, typeIs_str _ _ _, fun _ e => nomatch e⟩)

theorem callWith_meth {pos : Pos} {id : String} {ov : Value} {args : List Expr} {Q : Value → View → Shared → Prop} (G : Good C σ ls s)
    (h : Ev C ls args (fun vs σ' s' => TrE C ls (call (.builtin id) (ov :: vs)) Q σ' s') σ s) : TrE C ls (callWith pos (.builtin id) [ov] (args.map fun e => (false, eval e C.env)) []) Q σ s := by
  have hp : (args.map fun e => ((false : Bool), eval e C.env)).any (·.1) = false := by simp
  cases args with
  | nil => exact PySem.Calls.callWith_builtin hp (PySem.evalArgs_none h)
  | cons e es =>
    have hs := spliced_ev G h
    have hsp : wpAny (model C.W.prog C.W.w) C.A (spliced ((e :: es).map fun e => (false, eval e C.env))) (fun vs s₁ => wpAny (model C.W.prog C.W.w) C.A (call (.builtin id) ([ov] ++ vs)) (EOut C ls Q s.heap σ) (fun _ _ => False) s₁) (fun _ _ => False) s :=
      wpAny_mono hs (fun vs s₁ hx => by obtain ⟨σ₁, G₁, S₁, h₁⟩ := hx; exact wpAny_mono h₁ (fun v s₂ hx => by obtain ⟨σ₂, G₂, S₂, q⟩ := hx; exact ⟨σ₂, G₂, S₁.trans S₂, q⟩) fun _ _ x => x) fun _ _ x => x
    exact PySem.Calls.callWith_builtin hp (PySem.Calls.evalArgs_plain hsp)

theorem mshp_sound (R : Rm C) {o : Op} {e b : Expr} {args : List Expr} {Q : Value → View → Shared → Prop} (h : mshp o e = some (b, args))
    (hv : TrE C ls (eval b C.env) (fun ov σ₁ s₁ => ∃ x, Real s₁.heap (C.D σ₁) ov x ∧ methOk o x σ₁ ∧ Ev C ls args (fun vs σ₂ s₂ => ∀ u v, TrE C ls (opT u v o (ov :: vs)) Q σ₂ s₂) σ₁ s₁) σ s) : TrE C ls (eval e C.env) Q σ s := by
  refine Exists.elim (mshp_inv h) fun name hx => ?_; obtain ⟨apos, pos, n, T, id, rfl, hm, rfl, hb, hst, hl, hline⟩ := hx
  have htrees : backTo pos (starEach args C.env) = args.map fun e => (false, eval e C.env) := by rw [starEach_noStar hst, backTo_noStar]
  refine wpAny_Call_method_late (attributeBase_plain hb) ?_ hline htrees (wpAny_mono hv (fun ov s₁ ⟨σ₁, G₁, S₁, x, r, hok, hev⟩ => ?_) fun _ _ x => x)
  · refine htrees ▸ ?_
    simp [backToKw, keywordEach]; solve_by_elim (maxDepth := 3) [Nat.le_of_lt, Nat.le_trans, Nat.lt_of_lt_of_le, Nat.lt_of_le_of_lt, n1, n2, n5, n6]
  · refine Exists.elim (meth_type R G₁ r hok) fun n' hx => ?_; obtain ⟨T', id', hm', hq0⟩ := hx
    rw [hm] at hm'; cases hm'
    refine ⟨T, id, hq0.1, hq0.2.1, hq0.2.2.1, hq0.2.2.2.1, hq0.2.2.2.2, ?_⟩
    refine wpAny_mono (callWith_meth (pos := pos) (Q := Q) G₁ (Ev.mono hev fun vs σ' s' h' => ((opT_meth (u := default) (v := default) hm) ▸ (h' _ _)))) (fun v s₂ hx => by obtain ⟨σ₂, G₂, S₂, q⟩ := hx; exact ⟨σ₂, G₂, S₁.trans S₂, q⟩) fun _ _ x => x
end
end Mine
end

section

open PySem PyProof.Rows
namespace Mine

noncomputable def Cx.more (C : Cx) (wr : List Addr) : Cx := { C with B := fun a => C.B a ∨ a ∈ wr }
@[simp] theorem more_W (C : Cx) (wr : List Addr) : (C.more wr).W = C.W := rfl
@[simp] theorem more_A (C : Cx) (wr : List Addr) : (C.more wr).A = C.A := rfl
@[simp] theorem more_env (C : Cx) (wr : List Addr) : (C.more wr).env = C.env := rfl
@[simp] theorem more_own (C : Cx) (wr : List Addr) : (C.more wr).own = C.own := rfl
@[simp] theorem more_vars (C : Cx) (wr : List Addr) : (C.more wr).vars = C.vars := rfl

section
variable {C : Cx} {ls : Ls} {σ σ' : View} {s : Shared} {wr : List Addr}

theorem D_more (a : Addr) : (C.more wr).D σ a ↔ C.D σ a ∨ a ∈ wr := by
  dsimp only [Cx.D, Cx.more]
  constructor
  · rintro (h | h | h | h)
    · exact .inl (.inl h)
    · exact .inl (.inr (.inl h))
    · exact .inl (.inr (.inr h))
    · exact .inr h
  · rintro ((h | h | h) | h)
    · exact .inl h
    · exact .inr (.inl h)
    · exact .inr (.inr (.inl h))
    · exact .inr (.inr (.inr h))
theorem Step.weaken {own own' : Addr → Prop} {h h' : Heap} (S : Step own h σ h' σ') (w : ∀ a, own a → own' a) : Step own' h σ h' σ' := ⟨fun b o e hr ho => S.keep b o e hr fun h => ho (w b h), S.size, S.grow, S.ro⟩

/-- objects are made that the frame may change from now on -/
theorem Good.enterL {h₂ : Heap} {tk : Nat} (G : Good C σ ls s) (k : ∀ b o, s.heap.get? b = some o → h₂.get? b = some o) (hz : s.heap.objs.size ≤ h₂.objs.size)
    (hw : ∀ a ∈ wr, s.heap.objs.size ≤ a ∧ ∃ o, h₂.get? a = some o) : Good (C.more wr) σ ls { s with heap := h₂, toks := tk } := by
  have L : Leaves s.heap (C.D σ) h₂ ((C.more wr).D σ) := fun b o e hd => by
    refine ⟨k b o e, fun h => ?_⟩
    rcases (D_more b).mp h with h | h
    · exact hd h
    · exact absurd (Heap.lt_size e) (Nat.not_lt.mpr (hw b h).1)
  have F := G.fr
  refine Exists.elim F.ns ?_; rintro m hm
  refine ⟨⟨fun b o e => k b o (G.stays b o e), G.same, fun a h => ?_, Nat.le_trans G.larger hz, fun a c e => (G.sim a c e).leaves L fun o e => k a o e, fun a h => ?_, fun a h hb => ?_, fun a h => ?_⟩,
    ⟨F.kind, F.glob, F.blt, ⟨m, hm.keeps k⟩, F.ownL, fun x c e => ?_, F.inj, fun i x d e1 e2 e3 => ?_, F.nodup, F.has⟩⟩
  · rcases (D_more a).mp h with h | h
    · exact G.fresh a h
    · exact Nat.le_trans G.larger (hw a h).1
  · rcases h with h | h | h
    · exact G.apart a (.inl h)
    · exact G.apart a (.inr h)
    · exact G.noView (hw a h).1
  · rcases hb with hb | hb
    · exact G.apart2 a h hb
    · exact absurd (G.toGround.lt (.inr (.inl h))) (Nat.not_lt.mpr (hw a hb).1)
  · rcases h with h | h | h
    · refine Exists.elim (G.old a (.inl h)) ?_; rintro o e; exact ⟨o, k a o e⟩
    · refine Exists.elim (G.old a (.inr h)) ?_; rintro o e; exact ⟨o, k a o e⟩
    · exact (hw a h).2
  · obtain ⟨h1, h2, v, hv⟩ := F.cells x c e
    exact ⟨h1.imp id .inl, h2, v, hv.keeps k⟩
  · obtain ⟨v, hq0⟩ := F.val i x d e1 e2 e3
    exact ⟨v, hq0.1.keeps k, hq0.2.leaves L⟩

theorem leaves_less (h : Heap) : Leaves h ((C.more wr).D σ) h (C.D σ) := fun b _ e hd => ⟨e, fun h => hd ((D_more b).mpr (.inl h))⟩
/-- and are let go -/
theorem Good.leaveL {ls' : Ls} {s₁ s₃ : Shared} {σ₁ : View} (G : Good C σ₁ ls s₁) (G' : Good (C.more wr) σ ls' s₃) : Good C σ ls' s₃ := by
  have L := leaves_less (C := C) (σ := σ) (wr := wr) s₃.heap
  have F := G'.fr
  refine ⟨⟨G'.stays, G'.same, fun a h => G'.fresh a ((D_more a).mpr (.inl h)), G'.larger, fun a c e => (G'.sim a c e).leaves L fun _ e => e, fun a h => G'.apart a (h.imp id .inl), fun a h hb => G'.apart2 a h (.inl hb), fun a h => G'.old a (h.imp id .inl)⟩,
    ⟨F.kind, F.glob, F.blt, F.ns, G.fr.ownL, fun x c e => ⟨(G.fr.cells x c e).1, (F.cells x c e).2⟩, F.inj, fun i x d e1 e2 e3 => ?_, F.nodup, F.has⟩⟩
  obtain ⟨v, hq0⟩ := F.val i x d e1 e2 e3
  exact ⟨v, hq0.1, hq0.2.leaves L⟩
theorem Step.leaveL {h₁ h₂ h₃ : Heap} (k : ∀ b o, h₁.get? b = some o → h₂.get? b = some o) (hz : h₁.objs.size ≤ h₂.objs.size) (hw : ∀ a ∈ wr, h₁.objs.size ≤ a) (S : Step (fun a => C.own a ∨ a ∈ wr) h₂ σ h₃ σ') : Step C.own h₁ σ h₃ σ' :=
  ⟨fun b o e hr ho => S.keep b o (k b o e) hr fun h => h.elim ho fun h => absurd (Heap.lt_size e) (Nat.not_lt.mpr (hw b h)), Nat.le_trans hz S.size, fun a h1 h2 => Nat.le_trans hz (S.grow a h1 h2),
    fun a c ha e hr => S.ro a c (Nat.lt_of_lt_of_le ha hz) e hr⟩

/-- while objects of the frame that hold no names change -/
theorem Good.quietW {h' : Heap} {tk : Nat} (G : Good C σ ls s) (hw : ∀ b ∈ wr, C.own b ∨ C.B b) (hl : C.env.locals ∉ wr) (hc : ∀ x c, C.env.cells.lookup x = some c → c ∉ wr) (hz : s.heap.objs.size ≤ h'.objs.size)
    (k : ∀ b o, b ∉ wr → s.heap.get? b = some o → h'.get? b = some o) (al : ∀ b ∈ wr, ∃ o, h'.get? b = some o) :
    Good C σ ls { s with heap := h', toks := tk } ∧ (∀ own : Addr → Prop, (∀ b ∈ wr, own b) → Step own s.heap σ h' σ) ∧ Leaves s.heap (C.D σ) h' (C.D σ) := by
  have S : ∀ own : Addr → Prop, (∀ b ∈ wr, own b) → Step own s.heap σ h' σ := fun own ho' => ⟨fun b o e _ ho => k b o (fun h => ho (ho' b h)) e, hz, fun _ h1 h2 => absurd h2 h1, fun _ _ _ e _ => .inl e⟩
  have L : Leaves s.heap (C.D σ) h' (C.D σ) := fun b o e hd => ⟨k b o (fun h => hd (.inr (hw b h))) e, hd⟩
  have F := G.fr
  obtain ⟨m, hm⟩ := F.ns
  refine ⟨⟨⟨fun b o e => ?_, G.same, G.fresh, Nat.le_trans G.larger hz, fun a c e => (G.sim a c e).leaves L fun o e' => ?_, G.apart, G.apart2, fun a h => ?_⟩,
    ⟨F.kind, F.glob, F.blt, ⟨m, hm.at' fun o e => k _ o hl e⟩, F.ownL, fun x c e => ?_, F.inj, fun i x d e1 e2 e3 => ?_, F.nodup, F.has⟩⟩, S, L⟩
  · have hd : ¬ C.D σ b := fun hd => absurd (Heap.lt_size e) (Nat.not_lt.mpr (G.fresh b hd))
    exact (L b o (G.stays b o e) hd).1
  · refine k a o (fun h => ?_) e'
    have := G.apart a (hw a h); rw [e] at this; exact nn (Eq.symm this)
  · by_cases q : a ∈ wr
    · exact al a q
    · obtain ⟨o, e⟩ := G.old a h; exact ⟨o, k a o q e⟩
  · obtain ⟨h1, h2, v, o, hq1⟩ := F.cells x c e
    exact ⟨h1, h2, v, o, k c o (hc x c e) hq1.1, hq1.2⟩
  · obtain ⟨v, hq0⟩ := F.val i x d e1 e2 e3
    refine ⟨v, hq0.1.at fun b hb o e => ?_, hq0.2.leaves L⟩
    rcases hb with rfl | ⟨y, hy⟩
    · exact k _ o hl e
    · exact k b o (hc y b hy) e

/-! an object is only read for a while -/
theorem Cell.lock_eq {c : Cell} (h : c.ro = true) : c.lock = c := by cases c <;> simp_all [Cell.lock, Cell.ro]
theorem Good.review {τ : View} (G : Good C σ ls s) (hd : ∀ a, τ a = none ↔ σ a = none) (hc : ∀ a c', τ a = some c' → ∃ c, σ a = some c ∧ ∀ D, CellAt s.heap D a c → CellAt s.heap D a c') : Good C τ ls s := by
  have e : C.D τ = C.D σ := by funext a; unfold Cx.D; simp only [ne_eq, hd, ne_eq]
  have F := G.fr
  refine ⟨⟨G.stays, G.same, (e ▸ G.fresh), G.larger, fun a c' h => ?_, fun a h => (hd a).mpr (G.apart a h), G.apart2, G.old⟩, ⟨F.kind, F.glob, F.blt, F.ns, F.ownL, F.cells, F.inj, (e ▸ F.val), F.nodup, F.has⟩⟩
  refine Exists.elim (hc a c' h) ?_; rintro c hq0
  rw [e]; exact hq0.2 _ (G.sim a c hq0.1)

theorem lockV_cases (σ : View) (us : List V) : lockV σ us = σ ∨ ∃ a c, us = [.ref a] ∧ σ a = some c ∧ lockV σ us = σ.upd a c.lock := by
  unfold lockV
  split
  · split
    · rename_i c e; exact .inr ⟨_, c, rfl, e, rfl⟩
    · exact .inl rfl
  · exact .inl rfl
theorem Good.lock (G : Good C σ ls s) (us : List V) : Good C (lockV σ us) ls s := by
  rcases lockV_cases σ us with h | ⟨a, c, rfl, e, h⟩
  · exact (Eq.symm h) ▸ G
  · refine h ▸ ?_
    refine G.review (fun b => ?_) fun b c' hb => ?_
    · by_cases q : b = a
      · subst q; simp [e]
      · rw [upd_ne q]
    · by_cases q : b = a
      · subst q; rw [upd_self] at hb; cases hb; exact ⟨c, e, fun D h => CellAt.lock.mpr h⟩
      · rw [upd_ne q] at hb; exact ⟨c', hb, fun _ h => h⟩
theorem Step.lock (own : Addr → Prop) (h : Heap) (σ : View) (us : List V) : Step own h σ h (lockV σ us) := by
  rcases lockV_cases σ us with e | ⟨a, c, rfl, e, e'⟩
  · simp only [e]; exact Step.refl _ _ _
  · simp only [e']
    refine ⟨fun _ _ e _ _ => e, Nat.le_refl _, fun b h1 h2 => ?_, fun b c' _ eb hr => ?_⟩
    · by_cases q : b = a
      · subst q; replace h2 := e ▸ h2; exact nn (Eq.symm h2)
      · rw [upd_ne q] at h1; exact absurd h2 h1
    · by_cases q : b = a
      · subst q; cases Eq.trans (Eq.symm e) eb; left; rw [upd_self, Cell.lock_eq hr]
      · left; exact (upd_ne q) ▸ eb
theorem unlock {us : List V} {σ₁ σ₃ : View} {s₁ s₃ : Shared} {ls₃ : Ls} {own : Addr → Prop} (G₁ : ∀ a, σ₁ a ≠ none → a < s₁.heap.objs.size) (G₃ : Good C σ₃ ls₃ s₃) (S : Step own s₁.heap (lockV σ₁ us) s₃.heap σ₃) :
    Good C (unlockV σ₁ us σ₃) ls₃ s₃ ∧ Step own s₁.heap σ₁ s₃.heap (unlockV σ₁ us σ₃) := by
  have S₀ : Step own s₁.heap σ₁ s₃.heap σ₃ := (Step.lock _ _ _ _).trans S
  have main : ∀ {a : Addr} {c c' : Cell}, us = [.ref a] → σ₁ a = some c → σ₃ a = some c' → c.lock.ro = true → Good C (σ₃.upd a c) ls₃ s₃ ∧ Step own s₁.heap σ₁ s₃.heap (σ₃.upd a c) := by
    rintro a c c' rfl e1 e2 hr
    have hlt : a < s₁.heap.objs.size := G₁ a (not_some e1)
    have hl : lockV σ₁ [.ref a] a = some c.lock := by dsimp only [lockV]; simp [e1]
    have h3 : σ₃ a = some c.lock := by
      rcases S.ro a c.lock hlt hl hr with h | h
      · exact h
      · exact nn (Eq.trans (Eq.symm h) e2)
    refine ⟨G₃.review (fun b => ?_) fun b d hb => ?_, fun b o e hb ho => S₀.keep b o e hb ho, S₀.size, fun b h1 h2 => ?_, fun b d hb eb hd => ?_⟩
    · by_cases q : b = a
      · cases q; simp [h3]
      · rw [upd_ne q]
    · by_cases q : b = a
      · subst q; rw [upd_self] at hb; cases hb; exact ⟨_, h3, fun D h => CellAt.lock.mp h⟩
      · rw [upd_ne q] at hb; exact ⟨d, hb, fun _ h => h⟩
    · by_cases q : b = a
      · subst q; replace h2 := e1 ▸ h2; exact nn (Eq.symm h2)
      · rw [upd_ne q] at h1; exact S₀.grow b h1 h2
    · by_cases q : b = a
      · cases q; rw [e1] at eb; cases eb; left; simp
      · exact (upd_ne q) ▸ (S₀.ro b d hb eb hd)
  unfold unlockV
  split
  · split
    · rename_i e1 e2; exact main rfl e1 e2 rfl
    · rename_i e1 e2; exact main rfl e1 e2 rfl
    · exact ⟨G₃, S₀⟩
  · exact ⟨G₃, S₀⟩
end
end Mine
end

section

open PySem PyProof.Rows
namespace Mine

/-- a pair's parts, as a target of two names takes them -/
noncomputable def RealP (h : Heap) (D : Addr → Prop) (v : Value) (x : V) : Prop := ∃ T v1 v2 p q, v = .ref T ∧ h.IsTuple T #[v1, v2] ∧ x = .tup [p, q] ∧ Real h D v1 p ∧ Real h D v2 q
/-- an iterator over data; `wr`: its own objects; `tgt`: the target that its items go to -/
structure It (C : Cx) (s₁ : Shared) (σ₀ : View) (tgt : Expr) (Rp : Heap → (Addr → Prop) → Value → V → Prop) (it : Addr) (wr : List Addr) (xs : List V) (fp : List Addr) (P : Nat → Nat → Heap → Value → Prop) (St : Nat → Heap → Prop) : Prop where
  frame : ∀ i h h', St i h → (∀ b ∈ fp, ∀ o, h.get? b = some o → h'.get? b = some o) → St i h'
  item : ∀ i (s : Shared) (Q : Value → Shared → Prop), i < xs.length → St i s.heap →
    (∀ v h' tk, P i s.heap.objs.size h' v → St (i + 1) h' → (∀ b o, b ∉ wr → s.heap.get? b = some o → h'.get? b = some o) → Q v { s with heap := h', toks := tk }) →
    wpAny (model C.W.prog C.W.w) C.A (pyNext (.ref it)) (fun r s₂ => ∃ v, r = some v ∧ wpAny (model C.W.prog C.W.w) C.A (letOwnedTupleGo tgt (.ref it) v) (fun _ s₃ => Q v s₃) (fun _ _ => False) s₂) (fun _ _ => False) s
  done : ∀ (s : Shared) (Q : Option Value → Shared → Prop) (E : Value → Shared → Prop), St xs.length s.heap →
    (∀ h' tk, (∀ b o, b ∉ wr → s.heap.get? b = some o → h'.get? b = some o) → Q none { s with heap := h', toks := tk }) → wpAny (model C.W.prog C.W.w) C.A (pyNext (.ref it)) Q E s
  self : ∀ i (s : Shared) (Q : Value → Shared → Prop) (E : Value → Shared → Prop), St i s.heap → Q (.ref it) s → wpAny (model C.W.prog C.W.w) C.A (pyIter (.ref it)) Q E s
  alive : ∀ i h, St i h → ∀ b ∈ wr, ∃ o, h.get? b = some o
  fps : ∀ b ∈ fp, b ∈ wr ∨ (b < s₁.heap.objs.size ∧ ¬ Rw σ₀ b ∧ ¬ C.own b)
  new : ∀ b ∈ wr, s₁.heap.objs.size ≤ b
  val : ∀ i v n₀ (h' : Heap) D', i < xs.length → Leaves s₁.heap (C.D σ₀) h' D' → (∀ a, D' a → a < n₀) → P i n₀ h' v → ∃ x, xs[i]? = some x ∧ Rp h' D' v x

section
variable {C : Cx} {ls : Ls} {σ σ' : View} {s : Shared} {wr : List Addr} {x : V} {v : Value}

/-- the iterator's last step, and its end -/
theorem Good.endL {ls' : Ls} {s₁ : Shared} {σ₁ : View} {h' : Heap} {tk : Nat} (G₁ : Good C σ₁ ls s₁) (G : Good (C.more wr) σ ls' s) (G₀ : ∀ b, C.own b ∨ C.B b → b ∉ wr) (hz : s.heap.objs.size ≤ h'.objs.size)
    (k : ∀ b o, b ∉ wr → s.heap.get? b = some o → h'.get? b = some o) : Good C σ ls' { s with heap := h', toks := tk } := by
  have L : Leaves s.heap ((C.more wr).D σ) h' (C.D σ) := fun b o e hd => ⟨k b o (fun h => hd ((D_more b).mpr (.inr h))) e, fun h => hd ((D_more b).mpr (.inl h))⟩
  have F := G.fr
  refine Exists.elim F.ns ?_; rintro m hm
  have kk : ∀ b, C.own b ∨ C.B b → ∀ o, s.heap.get? b = some o → h'.get? b = some o := fun b hb o e => k b o (G₀ b hb) e
  refine ⟨⟨fun b o e => ?_, G.same, fun a h => G.fresh a ((D_more a).mpr (.inl h)), Nat.le_trans G.larger hz, fun a c e => (G.sim a c e).leaves L fun o e' => ?_, fun a h => G.apart a (h.imp id .inl), fun a h hb => G.apart2 a h (.inl hb), fun a h => ?_⟩,
    ⟨F.kind, F.glob, F.blt, ⟨m, hm.at' fun o e => kk _ (.inl G₁.fr.ownL) o e⟩, G₁.fr.ownL, fun x c e => ?_, F.inj, fun i x d e1 e2 e3 => ?_, F.nodup, F.has⟩⟩
  · have hd : ¬ (C.more wr).D σ b := fun hd => absurd (Heap.lt_size e) (Nat.not_lt.mpr (G.fresh b hd))
    exact (L b o (G.stays b o e) hd).1
  · refine k a o (fun h => ?_) e'
    have := G.apart a (.inr (.inr h)); replace this := e ▸ this; exact nn (Eq.symm this)
  · refine Exists.elim (G.old a (h.imp id .inl)) ?_; rintro o e; exact ⟨o, kk a h o e⟩
  · obtain ⟨h1, h2, v, o, hq1⟩ := F.cells x c e
    exact ⟨(G₁.fr.cells x c e).1, h2, v, o, kk c (G₁.fr.cells x c e).1 o hq1.1, hq1.2⟩
  · obtain ⟨v, hq0⟩ := F.val i x d e1 e2 e3
    refine ⟨v, hq0.1.at fun b hb o e => ?_, hq0.2.leaves L⟩
    rcases hb with rfl | ⟨y, hy⟩
    · exact kk _ (.inl G₁.fr.ownL) o e
    · exact kk b (G₁.fr.cells y b hy).1 o e

theorem lockV_none {us : List V} {b : Addr} (h : σ b = none) : lockV σ us b = none := by
  rcases lockV_cases σ us with e | ⟨a, c, _, e, e'⟩
  · exact (Eq.symm e) ▸ h
  · rw [e', upd_ne (by rintro rfl; rw [e] at h; exact nn (Eq.symm h))]; exact h
theorem D_lock (us : List V) : C.D (lockV σ us) = C.D σ := by
  rcases lockV_cases σ us with e | ⟨a, c, _, e, e'⟩
  · rw [e]
  · rw [e']; exact D_upd e
/-- what is gone through is only read -/
theorem src_locked (G : Good C σ ls s) {a : Addr} (r : Real s.heap (C.D σ) (.ref a) x) (h : (∃ xs, seqOf σ x = some xs) ∨ ∃ es, dicOf σ x = some es) : ¬ Rw (lockV σ [x]) a ∧ ¬ C.own a := by
  have frozen : ¬ C.D σ a → ¬ Rw (lockV σ [x]) a ∧ ¬ C.own a := fun hd => by
    refine ⟨Rw.of_none (lockV_none ?_), fun h => hd (.inr (.inl h))⟩
    cases q : σ a with
    | none => rfl
    | some c => exact absurd (.inl (not_some q)) hd
  have locked : ∀ {c : Cell}, x = .ref a → σ a = some c → c.lock.ro = true → ¬ Rw (lockV σ [x]) a ∧ ¬ C.own a := by
    rintro c rfl e hr
    refine ⟨?_, fun h => by have := G.apart a (.inl h); replace this := e ▸ this; exact nn (Eq.symm this)⟩
    dsimp only [lockV]
    simp only [e]
    exact Rw.of_ro (upd_self _ _ _) hr
  cases r with
  | tup ho hz hd rs => exact frozen hd
  | lst ho hz hd rs => exact frozen hd
  | dct ho hz hn h2 hd rs => exact frozen hd
  | ref =>
    cases e : σ a with
    | none => rcases h with ⟨_, h⟩ | ⟨_, h⟩ <;> simp [seqOf, lstOf, dicOf, e] at h
    | some c =>
      cases c with
      | list ro xs => exact locked rfl e rfl
      | dict ro xs => exact locked rfl e rfl

theorem It.of_walks {y : Str} {py : Pos} {s₁ : Shared} {σ₀ : View} {it : Addr} {xs : List V} {fp : List Addr} {P : Nat → Value → Prop} {St : Nat → Heap → Prop} (W : Walks C.W.prog C.W.w C.A it fp [it] xs.length P St)
    (alive : ∀ i h, St i h → ∃ o, h.get? it = some o) (fps : ∀ b ∈ fp, b = it ∨ (b < s₁.heap.objs.size ∧ ¬ Rw σ₀ b ∧ ¬ C.own b)) (new : s₁.heap.objs.size ≤ it)
    (val : ∀ i v (h' : Heap) D', i < xs.length → Leaves s₁.heap (C.D σ₀) h' D' → P i v → ∃ x, xs[i]? = some x ∧ Real h' D' v x) :
    It C s₁ σ₀ (.Name y py) Real it [it] xs fp (fun i _ _ v => P i v) St :=
  ⟨W.frame, fun i s Q hi st hQ => W.item i s _ _ hi st fun v h' tk p st' k => ⟨v, rfl, wpAny_pure (hQ v h' tk p st' k)⟩, W.done, W.self, fun i h st b hb => by replace hb := List.mem_singleton.mp hb; subst hb; exact alive i h st, fun b hb => (fps b hb).imp (fun e => by simp [e]) id, fun b hb => by replace hb := List.mem_singleton.mp hb; subst hb; exact new, fun i v _ h' D' hi L _ hv => val i v h' D' hi L hv⟩

theorem it_value {y : Str} {py : Pos} (R : Rm C) (G : Good C σ ls s) {xs : List V} {Q : Value → Shared → Prop} {E : Value → Shared → Prop} (r : Real s.heap (C.D σ) v x) (h : itemsOf σ x = some xs)
    (hQ : ∀ o fp P St, It C s (lockV σ [x]) (.Name y py) Real s.heap.objs.size [s.heap.objs.size] xs fp P St → St 0 (s.heap.push o) → Q (.ref s.heap.objs.size) { s with heap := s.heap.push o }) :
    wpAny (model C.W.prog C.W.w) C.A (pyIter v) Q E s := by
  rcases itemsOf_cases h with ⟨z, rfl, rfl⟩ | hs | ⟨es, hd, rfl⟩
  · obtain ⟨t, rfl, k, z'⟩ := r.str_i
    have hl : (charsOf z).length = z.cps.size := by simp [charsOf]
    have val : ∀ i v (h' : Heap) D', i < (charsOf z).length → Leaves s.heap (C.D (lockV σ [.str z])) h' D' → SignAt z i v → ∃ x, (charsOf z)[i]? = some x ∧ Real h' D' v x := by
      intro i v h' D' _ _ hv
      obtain ⟨c, u, hc, rfl⟩ := hv
      refine ⟨.str ⟨#[c]⟩, ?_, .str _ _ (strOk_one k hc) (by simp)⟩
      simp [charsOf, hc]
    cases ha : z.cps.all (· < 128)
    · have W := Walks.strWide (prog := C.W.prog) (w := C.W.w) R.hh s.heap.objs.size z t
      rw [← hl] at W
      refine wpAny_pyIter_wide ha (hQ _ _ _ _ (It.of_walks W (fun i h st => let ⟨o, e, _⟩ := st; ⟨o, e⟩) (fun b hb => .inl (by simpa using hb)) (Nat.le_refl _) val) ⟨_, Heap.get?_push_size _ rfl, rfl, rfl⟩)
    · have W := Walks.strAscii (prog := C.W.prog) (w := C.W.w) R.hh s.heap.objs.size z t
      rw [← hl] at W
      refine wpAny_pyIter_ascii ha (hQ _ _ _ _ (It.of_walks W (fun i h st => let ⟨o, e, _⟩ := st; ⟨o, e⟩) (fun b hb => .inl (by simpa using hb)) (Nat.le_refl _) val) ⟨_, Heap.get?_push_size _ rfl, rfl, rfl⟩)
  · obtain ⟨a', vs, n, rfl, ho, hz, rs⟩ := seq_at G r hs
    have el : vs.size = xs.length := by rw [← rs.length]; simp
    have hlt : a' < s.heap.objs.size := by rcases ho with ho | ho <;> exact Heap.lt_size ho
    have fps : ∀ b ∈ [s.heap.objs.size, a'], b = s.heap.objs.size ∨ (b < s.heap.objs.size ∧ ¬ Rw (lockV σ [x]) b ∧ ¬ C.own b) := fun b hb => by
      simp at hb
      rcases hb with rfl | rfl
      · exact .inl rfl
      · exact .inr ⟨hlt, src_locked G r (.inl ⟨_, hs⟩)⟩
    have val : ∀ (i : Nat) v (h' : Heap) D', i < xs.length → Leaves s.heap (C.D (lockV σ [x])) h' D' → vs[i]? = some v → ∃ x, xs[i]? = some x ∧ Real h' D' v x := by
      intro i v h' D' _ L hv
      rw [D_lock] at L
      obtain ⟨y, h1, h2⟩ := rs.get' (i := i) (v := v) (by simpa using hv)
      exact ⟨y, h1, h2.leaves L⟩
    rcases ho with ho | ho
    · have W := Walks.list (prog := C.W.prog) (w := C.W.w) R.hh s.heap.objs.size a' (Nat.ne_of_lt hlt) vs
      rw [el] at W
      exact wpAny_pyIter_list (isList_of ho) (hQ _ _ _ _ (It.of_walks W (fun i h st => let ⟨o, e, _⟩ := st.1; ⟨o, e⟩) fps (Nat.le_refl _) val)
        ⟨⟨_, Heap.get?_push_size _ rfl, rfl, rfl⟩, (isList_of ho).push _⟩)
    · have W := Walks.tuple (prog := C.W.prog) (w := C.W.w) R.hh s.heap.objs.size a' (Nat.ne_of_lt hlt) vs
      rw [el] at W
      refine wpAny_pyIter_tuple (items := vs) (isTup_of ho) (hQ _ _ _ _ (It.of_walks W (fun i h st => let ⟨o, e, _⟩ := st.1; ⟨o, e⟩) fps (Nat.le_refl _) val) ?_)
      refine ⟨⟨_, Heap.get?_push_size _ rfl, rfl, rfl⟩, ?_⟩
      refine Exists.elim (isTup_of ho) ?_; rintro o hq1
      exact ⟨o, Heap.get?_push_of_some _ hq1.1, hq1.2⟩
  · obtain ⟨a', ds, n, rfl, ho, hz, hn, h2, rs⟩ := dic_at R.ok G r hd
    obtain ⟨kvs, hq0⟩ := RealD.pairs (prog := C.W.prog) (w := C.W.w) rs
    have at' : s.heap.DictAt (intKind C.W.prog C.W.w) a' kvs n := ⟨_, ds, ho, ⟨rfl, rfl, rfl⟩, rfl, fun e he => hq0.2.2.2 e (Array.mem_toList_iff.mpr he), hq0.1, by rw [hq0.2.1]; exact hn⟩
    have el : kvs.length = es.length := by have := congrArg List.length hq0.2.1; simpa using this
    have hlt := Heap.lt_size ho
    have W := Walks.dictKeys (knd := intKind C.W.prog C.W.w) R.hh s.heap.objs.size a' (Nat.ne_of_lt hlt) kvs n
    rw [show kvs.length = (es.map fun p => V.int p.1).length by rw [el, List.length_map]] at W
    refine wpAny_pyIter_dict (sysMod h2) at' (hQ _ _ _ _ (It.of_walks W (fun i h st => let ⟨o, e, _⟩ := st.1; ⟨o, e⟩) (fun b hb => ?_) (Nat.le_refl _) fun i v h' D' _ _ hv => ?_) ?_)
    · simp at hb
      rcases hb with rfl | rfl
      · exact .inl rfl
      · exact .inr ⟨hlt, src_locked G r (.inr ⟨_, hd⟩)⟩
    · obtain ⟨k, w, hk, hkk⟩ := hv
      have hk2 : (es.map (·.1))[i]? = some k := by rw [← hq0.2.1]; simp [hk]
      refine Exists.elim (Value.isInt_shape hkk) fun t hx => ?_; obtain rfl := hx
      refine ⟨.int k, ?_, .int _ _⟩
      have : (es.map fun p => V.int p.1) = (es.map (·.1)).map V.int := by simp
      simp only [this, List.getElem?_map, hk2]; rfl
    · exact ⟨⟨_, Heap.get?_push_size _ rfl, rfl, by rw [List.length_map, ← el]; rfl⟩, at'.push _⟩
end
end Mine
end

section
open PySem PyProof.Rows
set_option maxRecDepth 100000
namespace Mine
/-! reversed over a tuple -/
theorem slot_rv_next : Slot "reversed" "__next__" "reversed.__next__" :=
  .of (owner := "reversed") (n := "__next__") (by rw [typeLookup_type, builtinLookup_eq_fast]; kernel_rfl) (by decide +kernel) (by decide +kernel) (by decide +kernel)
    (by first | exact .inl (by decide +kernel) | exact .inr (by decide +kernel)) (by rw [isSubtype_type]; kernel_rfl)
theorem entry_rv_next : entryFor table "reversed.__next__" = some Builtin.«reversed.__next__» := entryFor_of_tree (by kernel_rfl)
theorem args_rv_next (a : Value) : argsOk "reversed.__next__" ⟨[a], []⟩ := by unfold argsOk; kernel_rfl
theorem slot_rv_iter : Slot "reversed" "__iter__" "reversed.__iter__" :=
  .of (owner := "reversed") (n := "__iter__") (by rw [typeLookup_type, builtinLookup_eq_fast]; kernel_rfl) (by decide +kernel) (by decide +kernel) (by decide +kernel)
    (by first | exact .inl (by decide +kernel) | exact .inr (by decide +kernel)) (by rw [isSubtype_type]; kernel_rfl)
theorem args_rv_iter (a : Value) : argsOk "reversed.__iter__" ⟨[a], []⟩ := by unfold argsOk; kernel_rfl
theorem entry_rv_iter : entryFor table "reversed.__iter__" = some Builtin.«dict_keyiterator.__iter__» :=
  entryFor_alias (id' := "dict_keyiterator.__iter__") (by kernel_rfl) (by first | rfl | decide +kernel | (unfold String.splitOn; simp +decide [String.splitOnAux])) (by decide +kernel) (by kernel_rfl)
theorem rv_no_rev : typeLookup (.type "tuple") "__reversed__" = pure none := by rw [typeLookup_type, builtinLookup_eq_fast]; kernel_rfl
theorem called_rv : TypeCalled "reversed" "reversed.__new__" "object.__init__" :=
  ⟨by decide +kernel, F.create_reversed, ⟨_, _, F.mro_reversed⟩, F.made_reversed, F.plain_reversed_new, F.sub_reversed_self,
    .of (owner := "object") (n := "__init__") (by rw [typeLookup_type, builtinLookup_eq_fast]; kernel_rfl) (by decide +kernel) (by decide +kernel) (by decide +kernel)
    (by first | exact .inl (by decide +kernel) | exact .inr (by decide +kernel)) (by rw [isSubtype_type]; kernel_rfl)⟩
theorem args_rv_init (obj a : Value) : argsOk "object.__init__" ⟨[obj, a], []⟩ := by unfold argsOk; kernel_rfl
noncomputable def rvObj (t : Addr) (i : Int) : Obj := { cls := .type "reversed", data := .fields #[.ref t, rawInt i] }
noncomputable def IsRv (h : Heap) (a t : Addr) (i : Int) : Prop := h.get? a = some (rvObj t i)
section
variable {prog : Program} {w : World} {A : Around} {E : Value → Shared → Prop} {s : Shared}
theorem IsRv.typeIs {a t : Addr} {i : Int} (x : IsRv s.heap a t i) : s.TypeIs (.ref a) "reversed" := ⟨_, x, rfl⟩
theorem code_rv_new {t : Addr} {items : Array Value} {n : Nat} {Q₁ : Value → Shared → Prop} (ht : s.heap.get? t = some (tupObj items n)) (hz : items.size ≤ 2 ^ 24)
    (h : ∀ tk, Q₁ (.ref s.heap.objs.size) { s with heap := s.heap.push (rvObj t ((items.size : Int) - 1)), toks := tk }) :
    codeAny (model prog w) A (.call (.builtin "reversed.__new__") ⟨[.type "reversed", .ref t], []⟩) (wants Q₁ E) s := by
  have hT : s.TypeIs (.ref t) "tuple" := ⟨_, ht, rfl⟩
  refine codeAny_of_tree ?_
  show wpAny _ A.in1 (do checkBuiltinCall "reversed.__new__" ⟨[.type "reversed", .ref t], []⟩; again (.builtin "reversed.__new__" ⟨[.type "reversed", .ref t], []⟩)) _ _ s
  refine wpAny_bind (wpAny_of_eq (F.newCall_reversed_1 _) (wpAny_pure ⟨plainId_quiet F.plain_reversed_new _, codeAny_builtin F.entry_reversed_new ?_⟩))
  rw [Around.under_plainId F.plain_reversed_new _]
  unfold Builtin.«reversed.__new__»
  refine wpAny_bind (wpAny_of_eq (newClass_reversed _) ?_)
  try dsimp only
  refine wpAny_bind (wpAny_of_eq (a := ()) (by first | rfl | kernel_rfl) ?_)
  refine wpAny_bind (wpAny_of_eq (a := ()) (by first | rfl | kernel_rfl) ?_)
  try dsimp only
  refine wpAny_bind (wpAny_specialOf hT rv_no_rev ?_)
  try dsimp only
  refine wpAny_bind ?_
  refine wpAny_bind (wpAny_isInstance (T := "tuple") (U := "dict") hT F.sub_tuple_dict ?_)
  show wpAny _ _ (if false = true then _ else _) _ _ _
  rw [if_neg Bool.false_ne_true]
  refine wpAny_bind (wpAny_specialOf hT slot_tuple_getitem.lookup ?_)
  refine wpAny_of_eq (a := true) (by first | rfl | kernel_rfl) ?_
  show wpAny _ _ (if false = true then _ else _) _ _ _
  rw [if_neg Bool.false_ne_true]
  refine wpAny_bind (PyProof.Rows.len_tuple (isTup_of ht) (by (first | lia | omega)) ?_)
  refine wpAny_bind (wpAny_of_eq (a := some (items.size : Int)) rfl ?_)
  show wpAny _ _ (newObj (Value.type "reversed") (.fields #[Value.ref t, rawInt ((items.size : Int) - 1)]) >>= _) _ _ _
  refine wpAny_bind (wpAny_newObj_type ?_)
  exact wpAny_pure (h _)
theorem call_rv {t : Addr} {items : Array Value} {n : Nat} {Q : Value → Shared → Prop} (ht : s.heap.get? t = some (tupObj items n)) (hz : items.size ≤ 2 ^ 24)
    (h : ∀ tk, Q (.ref s.heap.objs.size) { s with heap := s.heap.push (rvObj t ((items.size : Int) - 1)), toks := tk }) : wpAny (model prog w) A (call (.type "reversed") [.ref t]) Q E s := by
  refine callType_codes called_rv (Q₁ := fun obj s₁ => s₁.TypeIs obj "reversed" ∧ Q obj s₁) (F.typeCall_reversed_1 _) F.entry_object_init (code_rv_new ht hz fun tk => ⟨⟨_, Heap.get?_push_size _ rfl, rfl⟩, h tk⟩) ?_
  rintro obj s₁ ⟨hT, hq⟩
  exact ⟨hT, args_rv_init _ _, object_init_meets called_rv.init.lookup called_rv.made (by decide) prog w A.in1 _ s₁ ⟨hT, rfl, hq⟩⟩
theorem rv_next {it t : Addr} {i : Nat} {items : Array Value} {n : Nat} {x : Value} {Q : Option Value → Shared → Prop} (hit : IsRv s.heap it t (i : Int)) (ht : s.heap.get? t = some (tupObj items n)) (hz : items.size ≤ 2 ^ 24) (hx : items[i]? = some x)
    (hQ : ∀ h' tk, IsRv h' it t ((i : Int) - 1) → Heap.SameBut it s.heap h' → Q (some x) { s with heap := h', toks := tk }) : wpAny (model prog w) A (pyNext (.ref it)) Q E s := by
  have hT : s.TypeIs (.ref t) "tuple" := ⟨_, ht, rfl⟩
  have hi : i < items.size := (Array.getElem?_eq_some_iff.mp hx).1
  unfold pyNext
  refine wpAny_bind (wpAny_attempt (wpAny_callSpecial?_slot (name := Str.ofString "__next__") hit.typeIs slot_rv_next
    (wpAny_call_entry slot_rv_next hit.typeIs entry_rv_next ?_ (args_rv_next _))))
  unfold Builtin.«reversed.__next__»
  refine wpAny_bind (wpAny_of_eq (a := (Value.ref it, [])) rfl ?_)
  try dsimp only
  refine wpAny_bind (wpAny_field hit rfl (x := .ref t) rfl ?_)
  refine wpAny_bind (wpAny_field hit rfl (x := rawInt (i : Int)) rfl ?_)
  show wpAny _ _ (if (i : Int) < 0 then _ else _) _ _ s
  rw [if_neg (Int.not_lt.mpr (Int.natCast_nonneg i))]
  refine wpAny_bind (wpAny_specialOf hT slot_tuple_getitem.lookup ?_)
  show wpAny _ _ (if false = true then _ else _) _ _ _
  rw [if_neg Bool.false_ne_true]
  refine wpAny_bind (wpAny_mkInt ?_)
  have hj : seqIndex? (i : Int) items.size = some i := by
    rw [← idxOf_eq]; unfold idxOf; rw [if_pos (Int.natCast_nonneg i), if_pos (Int.ofNat_lt.mpr hi)]; rfl
  refine wpAny_bind (wpAny_attempt (PyProof.Rows.getItem_tuple (isTup_of ht) (by (first | lia | omega)) (by (first | lia | omega)) hj hx ?_))
  show wpAny _ _ (field (.ref it) 1 >>= _) _ _ _
  refine wpAny_bind (wpAny_field hit rfl (x := rawInt (i : Int)) rfl ?_)
  exact wpAny_bind (wpAny_setField_rec hit (by simp) fun h' he hs => wpAny_pure ⟨x, rfl, wpAny_pure (hQ h' _ he hs)⟩)
theorem rv_end {it t : Addr} {Q : Option Value → Shared → Prop} (hh : A.handled = none) (hit : IsRv s.heap it t (-1))
    (hQ : ∀ h', Heap.ExtBut it s.heap h' → Q none { s with heap := h' }) : wpAny (model prog w) A (pyNext (.ref it)) Q E s := by
  unfold pyNext
  refine wpAny_bind (wpAny_attempt (wpAny_callSpecial?_slot (name := Str.ofString "__next__") hit.typeIs slot_rv_next
    (wpAny_call_entry slot_rv_next hit.typeIs entry_rv_next ?_ (args_rv_next _))))
  unfold Builtin.«reversed.__next__»
  refine wpAny_bind (wpAny_of_eq (a := (Value.ref it, [])) rfl ?_)
  try dsimp only
  refine wpAny_bind (wpAny_field hit rfl (x := .ref t) rfl ?_)
  refine wpAny_bind (wpAny_field hit rfl (x := rawInt (-1)) rfl ?_)
  show wpAny _ _ (if (-1 : Int) < 0 then _ else _) _ _ s
  rw [if_pos (by decide)]
  refine wpAny_bind (wpAny_rule ?_)
  refine wpAny_bind ?_
  refine wpAny_bind (wpAny_setField_rec hit (by simp) fun h₁ he₁ hs₁ => ?_)
  refine wpAny_setField_rec he₁ (by simp) fun h₂ he₂ hs₂ => ?_
  refine wpAny_bind ?_
  show wpAny _ _ (newExc (.type "StopIteration") [] >>= _) _ _ _
  refine wpAny_bind ?_
  simp only [newExc, newTuple]
  refine wpAny_bind (wpAny_newObj_type ?_ (by size_fits))
  refine wpAny_bind (m := firstArgMember _ _) (wpAny_of_eq (a := Value.none) (by first | rfl | (simp only [firstArgMember]; rfl)) ?_)
  refine wpAny_newObj_type ?_ (by size_fits)
  simp only [raiseNew]
  refine wpAny_bind (wpAny_handled ?_)
  first | rw [show A.in1.handled = none from hh] | rw [hh]
  refine wpAny_bind (wpAny_pure (wpAny_throw ?_))
  refine wpAny_bind (wpAny_isInstance (T := "StopIteration") (b := true) ⟨_, Heap.get?_push_size _ rfl, rfl⟩ isSubtype_stop ?_)
  exact wpAny_pure (hQ _ ((((hs₁.extBut).trans hs₂.extBut).push _).push _))
theorem rv_iter {it t : Addr} {i : Int} {Q : Value → Shared → Prop} (hit : IsRv s.heap it t i) (h : Q (.ref it) s) : wpAny (model prog w) A (pyIter (.ref it)) Q E s := by
  refine wpAny_pyIter_slot hit.typeIs slot_rv_iter (wpAny_call_entry slot_rv_iter hit.typeIs entry_rv_iter ?_ (args_rv_iter _))
  show wpAny _ _ (ret (.ref it)) _ _ s
  exact wpAny_pure ⟨_, rfl, "reversed", _, hit.typeIs, slot_rv_next.lookup, h⟩
end
end Mine
end

section
open PySem PyProof.Rows
set_option maxRecDepth 100000
namespace Mine
/-! enumerate over a tuple; the walk of reversed -/
section
variable {prog : Program} {w : World} {A : Around} {E : Value → Shared → Prop} {s : Shared}
theorem nextOf_tup {it t : Addr} {i : Nat} {items : Array Value} {x : Value} {Q : Value → Shared → Prop} (hit : s.heap.IsTupleIter it t i) (ht : s.heap.IsTuple t items) (hx : items[i]? = some x)
    (hQ : ∀ h', h'.IsTupleIter it t (i + 1) → Heap.SameBut it s.heap h' → Q x { s with heap := h' }) : wpAny (model prog w) A (Builtin.SmallTypes.nextOf (.ref it)) Q E s := by
  obtain ⟨o, ho, hc, hd⟩ := id hit
  obtain ⟨ol, hol, _, nl, hdl⟩ := ht
  unfold Builtin.SmallTypes.nextOf
  refine wpAny_bind (wpAny_callSpecial?_slot (name := Str.ofString "__next__") hit.typeIs F.slot_tuple_iterator_next
    (wpAny_call_entry F.slot_tuple_iterator_next hit.typeIs F.entry_tuple_iterator_next ?_ (F.args_tuple_iterator_next_1 _)))
  show wpAny _ _ (field (.ref it) 0 >>= _) _ _ s
  refine wpAny_bind (wpAny_field ho hd (x := .ref t) rfl ?_)
  show wpAny _ _ (if (Value.ref t == Value.none) = true then _ else _) _ _ s
  rw [if_neg (show ¬ ((Value.ref t == Value.none) = true) from Bool.false_ne_true)]
  show wpAny _ _ (field (.ref it) 1 >>= _) _ _ s
  refine wpAny_bind (wpAny_field ho hd (x := .int i 0) rfl ?_)
  show wpAny _ _ (seqItems? (.ref t) >>= _) _ _ s
  refine wpAny_bind (wpAny_seqItems hol hdl ?_)
  simp only [Int.toNat_natCast, hx]
  refine wpAny_bind (wpAny_setField ho hd (by simp) (wpAny_pure ⟨x, rfl, wpAny_pure (hQ _ ?_ (Heap.SameBut.update ..))⟩))
  exact ⟨_, Heap.get?_update_self _ ho (Obj.isFreed_of_fields (Obj.data_mapFields hd _)), (Obj.cls_mapFields ..).trans hc, by
    rw [Obj.data_mapFields hd]; simp [rawInt]⟩
theorem nextOf_tup_end {it t : Addr} {i : Nat} {items : Array Value} {Q : Value → Shared → Prop} (hh : A.handled = none) (hit : s.heap.IsTupleIter it t i) (ht : s.heap.IsTuple t items) (hx : items[i]? = none)
    (hE : ∀ h' e, Heap.ExtBut it s.heap h' → (∃ o, h'.get? e = some o ∧ o.cls = .type "StopIteration") → E (.ref e) { s with heap := h' }) :
    wpAny (model prog w) A (Builtin.SmallTypes.nextOf (.ref it)) Q E s := by
  obtain ⟨o, ho, hc, hd⟩ := id hit
  obtain ⟨ol, hol, _, nl, hdl⟩ := ht
  unfold Builtin.SmallTypes.nextOf
  refine wpAny_bind (wpAny_callSpecial?_slot (name := Str.ofString "__next__") hit.typeIs F.slot_tuple_iterator_next
    (wpAny_call_entry F.slot_tuple_iterator_next hit.typeIs F.entry_tuple_iterator_next ?_ (F.args_tuple_iterator_next_1 _)))
  show wpAny _ _ (field (.ref it) 0 >>= _) _ _ s
  refine wpAny_bind (wpAny_field ho hd (x := .ref t) rfl ?_)
  show wpAny _ _ (if (Value.ref t == Value.none) = true then _ else _) _ _ s
  rw [if_neg (show ¬ ((Value.ref t == Value.none) = true) from Bool.false_ne_true)]
  show wpAny _ _ (field (.ref it) 1 >>= _) _ _ s
  refine wpAny_bind (wpAny_field ho hd (x := .int i 0) rfl ?_)
  show wpAny _ _ (seqItems? (.ref t) >>= _) _ _ s
  refine wpAny_bind (wpAny_seqItems hol hdl ?_)
  simp only [Int.toNat_natCast, hx]
  refine wpAny_bind (wpAny_rule (wpAny_bind (wpAny_setField ho hd (by simp) ?_)))
  show wpAny _ _ (newExc (.type "StopIteration") [] >>= _) _ _ _
  refine wpAny_bind ?_
  simp only [newExc, newTuple]
  refine wpAny_bind (wpAny_newObj_type ?_ (by size_fits))
  refine wpAny_bind (m := firstArgMember _ _) (wpAny_of_eq (a := Value.none) (by first | rfl | (simp only [firstArgMember]; rfl)) ?_)
  refine wpAny_newObj_type ?_ (by size_fits)
  simp only [raiseNew]
  refine wpAny_bind (wpAny_handled ?_)
  first | rw [show A.in1.handled = none from hh] | rw [hh]
  refine wpAny_bind (wpAny_pure (wpAny_throw ?_))
  exact hE _ _ (((Heap.SameBut.update ..).extBut.push _).push _) ⟨_, Heap.get?_push_size _ rfl, rfl⟩
theorem drawsT {A : Around} (hh : A.handled = none) (it t : Addr) (hne : t ≠ it) (items : Array Value) :
    Draws prog w A it [it, t] items.size (fun i v => items[i]? = some v) (fun i h => h.IsTupleIter it t i ∧ h.IsTuple t items) where
  live := fun _ _ st => by obtain ⟨o, ho, _⟩ := st.1; exact ⟨o, ho⟩
  frame := fun _ _ _ st hk => ⟨st.1.at fun o e => hk it (by simp) o e, by obtain ⟨o, ho, r⟩ := st.2; exact ⟨o, hk t (by simp) o ho, r⟩⟩
  item := fun i s Q E hi st hQ => by
    refine nextOf_tup st.1 st.2 (x := items[i]) (by simp [hi]) fun h' hit' hs' => ?_
    exact hQ _ h' s.toks (by simp [hi]) ⟨hit', st.2.extBut hs'.extBut hne⟩ hs'
  done := fun s Q E st hE => nextOf_tup_end hh st.1 st.2 (by simp) hE
theorem enum_newT (l : Addr) (items : Array Value) (n : Nat) :
    Meets (Builtin.«enumerate.__new__» ⟨[.type "enumerate", .ref l], []⟩) (fun _ R s => s.heap.get? l = some (tupObj items n) ∧
      R (.ok (.ret (.ref (s.heap.push { cls := .type "tuple_iterator", data := .fields #[.ref l, .int 0 0] }).objs.size)))
        { s with heap := (s.heap.push { cls := .type "tuple_iterator", data := .fields #[.ref l, .int 0 0] }).push { cls := .type "enumerate", data := .fields #[.none, .bool false, .ref s.heap.objs.size, rawInt 0, .none, .none] } }) :=
  .of_wp fun prog w A R s h => by
    obtain ⟨hp, g, d, tk, os⟩ := s; obtain ⟨hl, h⟩ := h
    have hsub := sub_enumerate
    have hL : Heap.IsTuple (Shared.heap ⟨hp, g, d, tk, os⟩) l items := ⟨_, hl, rfl, n, rfl⟩
    have hl' : hp.get? l = some { cls := .type "tuple", data := .seq items n } := hl
    wp_walk using PySem.AutoSeq1.wpAny_loadPart' hl'
    refine wpAny_stack_any fun st => wpAny_pure ?_
    split
    · rename_i c _ _ _ _ _
      cases (c == Value.type "enumerate")
      · wp_walk using PySem.AutoSeq1.wpAny_loadPart' hl', wpAny_pyIter_tuple hL
        exact ⟨_, rfl, h⟩
      · wp_walk using PySem.AutoSeq1.wpAny_loadPart' hl', wpAny_pyIter_tuple hL
        exact ⟨_, rfl, h⟩
    · wp_walk using PySem.AutoSeq1.wpAny_loadPart' hl', wpAny_pyIter_tuple hL
      exact ⟨_, rfl, h⟩
theorem call_enumT {l : Addr} {items : Array Value} {n : Nat} {Q : Value → Shared → Prop} (hl : s.heap.get? l = some (tupObj items n))
    (h : ∀ h', IsEnum h' (s.heap.objs.size + 1) s.heap.objs.size 0 .none → h'.IsTupleIter s.heap.objs.size l 0 → h'.objs.size = s.heap.objs.size + 2 →
      (∀ b o, s.heap.get? b = some o → h'.get? b = some o) → Q (.ref (s.heap.objs.size + 1)) { s with heap := h' }) :
    wpAny (model prog w) A (call (.type "enumerate") [.ref l]) Q E s := by
  refine callType_new F.called_enumerate (by decide) (F.typeCall_enumerate_1 _) (F.newCall_enumerate_1 _) (fun obj => F.args_object_init_2 obj _) F.entry_enumerate_new
    (enum_newT l items n) ⟨hl, ?_⟩
  have hz : (s.heap.push { cls := .type "tuple_iterator", data := .fields #[.ref l, .int 0 0] }).objs.size = s.heap.objs.size + 1 := Heap.size_push ..
  show _ ∧ _
  rw [hz]
  have he : IsEnum ((s.heap.push { cls := .type "tuple_iterator", data := .fields #[.ref l, .int 0 0] }).push
      { cls := .type "enumerate", data := .fields #[.none, .bool false, .ref s.heap.objs.size, rawInt 0, .none, .none] }) (s.heap.objs.size + 1) s.heap.objs.size 0 .none := by
    have := Heap.get?_push_size (s.heap.push { cls := .type "tuple_iterator", data := .fields #[.ref l, .int 0 0] })
      (o := { cls := .type "enumerate", data := .fields #[.none, .bool false, .ref s.heap.objs.size, rawInt 0, .none, .none] }) rfl
    rw [hz] at this; exact this
  exact ⟨⟨_, he, rfl⟩, h _ he ⟨_, Heap.get?_push_of_some _ (Heap.get?_push_size _ rfl), rfl, rfl⟩ (by rw [Heap.size_push, hz]) fun b o x => Heap.get?_push_of_some _ (Heap.get?_push_of_some _ x)⟩
end
theorem walksR {prog : Program} {w : World} {A : Around} (hh : A.handled = none) (I t : Addr) (hne : t ≠ I) (items : Array Value) (n : Nat) (hz : items.size ≤ 2 ^ 24) :
    Walks prog w A I [I, t] [I] items.size (fun i v => items[items.size - 1 - i]? = some v) (fun i h => i ≤ items.size ∧ IsRv h I t ((items.size : Int) - 1 - (i : Int)) ∧ h.get? t = some (tupObj items n)) where
  sub := fun b hb => by simp at hb; simp [hb]
  frame := fun _ _ _ x hk => ⟨x.1, hk I (by simp) _ x.2.1, hk t (by simp) _ x.2.2⟩
  item := fun i s Q E hi x hQ => by
    have e : (items.size : Int) - 1 - (i : Int) = ((items.size - 1 - i : Nat) : Int) := by (first | lia | omega)
    have hit := x.2.1
    rw [e] at hit
    have hx : items[items.size - 1 - i]? = some (items[items.size - 1 - i]'(by omega)) := Array.getElem?_eq_getElem (by omega)
    refine rv_next hit x.2.2 hz hx fun h' tk hit' hs' => ?_
    have e2 : ((items.size - 1 - i : Nat) : Int) - 1 = (items.size : Int) - 1 - ((i + 1 : Nat) : Int) := by (first | lia | omega)
    rw [e2] at hit'
    exact hQ _ h' tk hx ⟨hi, hit', (hs'.2 t hne).trans x.2.2⟩ fun b o hb eo => hs'.extBut b o (fun h => hb (by simp [h])) eo
  done := fun s Q E x hQ => by
    have hit := x.2.1
    rw [show (items.size : Int) - 1 - (items.size : Int) = -1 by (first | lia | omega)] at hit
    exact rv_end hh hit fun h' he' => hQ h' s.toks fun b o hb eo => he' b o (fun h => hb (by simp [h])) eo
  self := fun _ _ _ _ x hQ => rv_iter x.2.1 hQ
end Mine
end

section

open PySem PyProof.Rows
namespace Mine
section
variable {C : Cx} {ls : Ls} {σ σ' : View} {s : Shared} {x : V} {v : Value}

noncomputable def srcT (k : Nat) (vs : List Value) : Sem Value :=
  match k, vs with
  | 0, [v] => pure v
  | 1, vs => call (.type "range") vs
  | 2, vs => call (.type "enumerate") vs
  | 3, vs => call (.type "reversed") vs
  | _, _ => unsupported "none"

theorem rangeSize_one (a b : Int) : Builtin.Range.rangeSize a b 1 = ((b - a).toNat : Int) := by
  unfold Builtin.Range.rangeSize
  rw [if_pos (by decide)]
  by_cases h : a < b
  · rw [if_pos h, Int.ediv_one, Int.sub_add_cancel, Int.toNat_of_nonneg (Int.sub_nonneg_of_le (Int.le_of_lt h))]
  · rw [if_neg h, Int.toNat_of_nonpos (Int.sub_nonpos_of_le (Int.not_lt.mp h))]; rfl
theorem rangeSize_down (a b : Int) : Builtin.Range.rangeSize a b (-1) = ((a - b).toNat : Int) := by
  unfold Builtin.Range.rangeSize
  rw [if_neg (by decide)]
  by_cases h : b < a
  · rw [if_pos h, show -(-1 : Int) = 1 from rfl, Int.ediv_one, Int.sub_add_cancel, Int.toNat_of_nonneg (Int.sub_nonneg_of_le (Int.le_of_lt h))]
  · rw [if_neg h, Int.toNat_of_nonpos (Int.sub_nonpos_of_le (Int.not_lt.mp h))]; rfl
theorem small_all {a b c : Int} {n : Nat} (ha : smallI a = true) (hb : smallI b = true) (hc : c = 1 ∨ c = -1) (hn : Builtin.Range.rangeSize a b c = (n : Int)) (hz : (n : Int) ≤ (b - a).toNat + (a - b).toNat) : Builtin.Range.small a b c = true := by
  unfold smallI at ha hb
  obtain ⟨a1, a2⟩ := Bool.and_eq_true_iff.mp ha
  obtain ⟨b1, b2⟩ := Bool.and_eq_true_iff.mp hb
  have a1 := of_decide_eq_true a1
  have a2 := of_decide_eq_true a2
  have b1 := of_decide_eq_true b1
  have b2 := of_decide_eq_true b2
  have h : (n : Int) < 2 ^ 63 := by (first | lia | omega)
  unfold Builtin.Range.small
  rw [hn]
  simp only [Builtin.Range.rangeFitsLong]
  rcases hc with rfl | rfl <;> simp <;> (first | lia | omega)

/-- from a range that lies in the heap -/
theorem it_range {y : Str} {py : Pos} (R : Rm C) {us : List V} {xs : List Int} {h₁ : Heap} {tk : Nat} {ra : Addr} {a b c : Int} {t u w : Tok} {Q : Value → Shared → Prop} {E : Value → Shared → Prop} (hr : IsRange h₁ ra a b c t u w)
    (hsm : Builtin.Range.small a b c = true) (hn : Builtin.Range.rangeSize a b c = (xs.length : Int)) (hx : ∀ i, i < xs.length → xs[i]? = some (a + (i : Int) * c))
    (k : ∀ b o, s.heap.get? b = some o → h₁.get? b = some o) (hz : s.heap.objs.size ≤ h₁.objs.size)
    (hQ : ∀ it h₂ tk fp P St, It C s (lockV σ us) (.Name y py) Real it [it] (xs.map .int) fp P St → St 0 h₂ → (∀ b o, s.heap.get? b = some o → h₂.get? b = some o) → s.heap.objs.size ≤ h₂.objs.size → Q (.ref it) { s with heap := h₂, toks := tk }) :
    wpAny (model C.W.prog C.W.w) C.A (pyIter (.ref ra)) Q E { s with heap := h₁, toks := tk } := by
  have hl : (xs.map V.int).length = xs.length := List.length_map _
  have W := Walks.range (prog := C.W.prog) (w := C.W.w) (A := C.A) R.hh h₁.objs.size a c xs.length
  rw [← hl] at W
  refine wpAny_pyIter_range hr hsm (hQ h₁.objs.size _ tk _ _ _ (It.of_walks W (fun i h st => ⟨_, st⟩) (fun b hb => .inl (List.mem_singleton.mp hb)) hz fun i v h' D' hi _ hv => ?_) ?_ (fun b o e => Heap.get?_push_of_some _ (k b o e)) (by rw [Heap.size_push]; exact Nat.le_succ_of_le hz))
  · obtain ⟨t', rfl⟩ := hv
    refine ⟨.int (a + i * c), ?_, .int _ _⟩
    rw [List.getElem?_map, hx i (hl ▸ hi)]; rfl
  · show IsRangeIter _ _ _ _ _
    rw [hl, hn]
    simp only [Int.natCast_zero, Int.zero_mul, Int.add_zero, Int.sub_zero]
    exact Heap.get?_push_size _ rfl
theorem rangeL_len (a b : Int) : (rangeL a b 1).length = (b - a).toNat := by unfold rangeL; rw [List.length_map, List.length_range]
theorem rangeL_at {a b : Int} {i : Nat} (h : i < (rangeL a b 1).length) : (rangeL a b 1)[i]? = some (a + (i : Int) * 1) := by
  rw [rangeL_len] at h
  unfold rangeL
  rw [List.getElem?_map, List.getElem?_range h, Int.mul_one]; rfl
theorem rangeD_len (a b : Int) : (rangeD a b).length = (a - b).toNat := by unfold rangeD; rw [List.length_map, List.length_range]
theorem rangeD_at {a b : Int} {i : Nat} (h : i < (rangeD a b).length) : (rangeD a b)[i]? = some (a + (i : Int) * (-1)) := by
  rw [rangeD_len] at h
  unfold rangeD
  rw [List.getElem?_map, List.getElem?_range h]; rfl
theorem it_up {y : Str} {py : Pos} (R : Rm C) {us : List V} {h₁ : Heap} {tk : Nat} {ra : Addr} {a b : Int} {t u w : Tok} {Q : Value → Shared → Prop} {E : Value → Shared → Prop} (hr : IsRange h₁ ra a b 1 t u w) (ha : smallI a = true) (hb : smallI b = true)
    (k : ∀ b o, s.heap.get? b = some o → h₁.get? b = some o) (hz : s.heap.objs.size ≤ h₁.objs.size)
    (hQ : ∀ it h₂ tk fp P St, It C s (lockV σ us) (.Name y py) Real it [it] ((rangeL a b 1).map .int) fp P St → St 0 h₂ → (∀ b o, s.heap.get? b = some o → h₂.get? b = some o) → s.heap.objs.size ≤ h₂.objs.size → Q (.ref it) { s with heap := h₂, toks := tk }) :
    wpAny (model C.W.prog C.W.w) C.A (pyIter (.ref ra)) Q E { s with heap := h₁, toks := tk } :=
  it_range R hr (small_all ha hb (.inl rfl) (rangeSize_one a b) (Int.le_add_of_nonneg_right (Int.natCast_nonneg _))) (by rw [rangeL_len]; exact rangeSize_one a b) (fun _ h => rangeL_at h) k hz hQ

/-- from the values on: an iterator -/
noncomputable def Src (C : Cx) (tgt : Expr) (Rp : Heap → (Addr → Prop) → Value → V → Prop) (s : Shared) (σ : View) (us xs : List V) (r : Value) (s' : Shared) : Prop :=
  ∀ (K : Value → Shared → Prop), (∀ it wr h₂ tk fp P St, It C s (lockV σ us) tgt Rp it wr xs fp P St → St 0 h₂ → (∀ b o, s.heap.get? b = some o → h₂.get? b = some o) → s.heap.objs.size ≤ h₂.objs.size → K (.ref it) { s with heap := h₂, toks := tk }) →
    wpAny (model C.W.prog C.W.w) C.A (pyIter r) K (fun _ _ => False) s'
theorem intL_some {f : Int → Option (List V)} {x : V} {d : List V} (h : intL f x = some d) : ∃ a, x = .int a ∧ f a = some d := by
  cases x with
  | int a => exact ⟨a, rfl, h⟩
  | _ => exact nn h
theorem ite_someL {c : Prop} [Decidable c] {a d : List V} (e : (if c then some a else none) = some d) : c ∧ d = a := by
  by_cases h : c
  · rw [if_pos h] at e; exact ⟨h, (Option.some.inj e).symm⟩
  · rw [if_neg h] at e; exact nn e
theorem it_src {y : Str} {py : Pos} (R : Rm C) (G : Good C σ ls s) {vs : List Value} {us xs : List V} (rs : Reals s.heap (C.D σ) vs us) (h : rangeXs us = some xs) :
    wpAny (model C.W.prog C.W.w) C.A (srcT 1 vs) (fun r s' => Src C (.Name y py) Real s σ us xs r s') (fun _ _ => False) s := by
  have hz : ∀ o, s.heap.objs.size ≤ (s.heap.push o).objs.size := fun o => by rw [Heap.size_push]; exact Nat.le_succ _
  cases us with
  | nil => exact nn h
  | cons x r =>
    cases r with
    | nil =>
      obtain ⟨v, rfl, rv⟩ := rs.one
      obtain ⟨i, rfl, h⟩ := intL_some h
      obtain ⟨hs, rfl⟩ := ite_someL h
      obtain ⟨t, rfl⟩ := rv.int_i
      exact call_range_1 fun K hQ => (it_up R (s := s) (σ := σ) (IsRange.new ..) rfl hs (fun b o e => Heap.get?_push_of_some _ e) (hz _) fun it h₂ tk fp P St I => hQ it _ h₂ tk fp P St I)
    | cons x' r =>
      cases r with
      | nil =>
        obtain ⟨v, w, rfl, rv, rw'⟩ := rs.two
        obtain ⟨i, rfl, h⟩ := intL_some h
        obtain ⟨j, rfl, h⟩ := intL_some h
        obtain ⟨hs, rfl⟩ := ite_someL h
        obtain ⟨t, rfl⟩ := rv.int_i
        obtain ⟨u, rfl⟩ := rw'.int_i
        exact call_range_2 fun K hQ => (it_up R (s := s) (σ := σ) (IsRange.new ..) (Bool.and_eq_true_iff.mp hs).1 (Bool.and_eq_true_iff.mp hs).2 (fun b o e => Heap.get?_push_of_some _ e) (hz _) fun it h₂ tk fp P St I => hQ it _ h₂ tk fp P St I)
      | cons x'' r =>
        cases r with
        | nil =>
          obtain ⟨v, w, z, rfl, rv, rw', rz⟩ := rs.three
          obtain ⟨i, rfl, h⟩ := intL_some h
          obtain ⟨j, rfl, h⟩ := intL_some h
          obtain ⟨c, rfl, h⟩ := intL_some h
          obtain ⟨⟨hs, rfl⟩, rfl⟩ := ite_someL h
          obtain ⟨t, rfl⟩ := rv.int_i
          obtain ⟨u, rfl⟩ := rw'.int_i
          obtain ⟨p, rfl⟩ := rz.int_i
          obtain ⟨hs1, hs2⟩ := Bool.and_eq_true_iff.mp hs
          exact call_range_3 (by decide) (fun K hQ => it_range R (s := s) (σ := σ) (IsRange.new ..) (small_all hs1 hs2 (.inr rfl) (rangeSize_down i j) (Int.le_add_of_nonneg_left (Int.natCast_nonneg _))) (by rw [rangeD_len]; exact rangeSize_down i j) (fun _ h => rangeD_at h) (fun b o e => Heap.get?_push_of_some _ e) (hz _) fun it h₂ tk fp P St I => hQ it _ h₂ tk fp P St I) (.inl (PyProof.noPylong_small (by decide)))
        | cons _ _ => exact nn h

/-- enumerate, its pairs taken apart -/
theorem it_enumG {elts : List Expr} {n1 : Nat} {pt : Pos} (G : Good C σ ls s) {ys : List V} {a : Addr} {items : Array Value} {St : Nat → Heap → Prop} {Mid : Nat → Addr → Heap → Prop} {h' : Heap} {K : Value → Shared → Prop}
    (rv : Real s.heap (C.D σ) (.ref a) x) (hs : seqOf σ x = some ys) (rs' : Reals s.heap (C.D σ) items.toList ys) (hlt : a < s.heap.objs.size)
    (W : WalksT C.W.prog C.W.w C.A (s.heap.objs.size + 1) [s.heap.objs.size + 1, s.heap.objs.size, a] [s.heap.objs.size + 1, s.heap.objs.size] items.size (fun i vals => ∃ t x, items[i]? = some x ∧ vals = #[.int i t, x]) St Mid)
    (alive : ∀ i h, St i h → (∃ o, h.get? (s.heap.objs.size + 1) = some o) ∧ ∃ o, h.get? s.heap.objs.size = some o) (st0 : St 0 h') (hsz : h'.objs.size = s.heap.objs.size + 2) (hk : ∀ b o, s.heap.get? b = some o → h'.get? b = some o)
    (hQ : ∀ it wr h₂ tk fp P St, It C s (lockV σ [x]) (.Tuple elts n1 pt) RealP it wr (ys.mapIdx enumV) fp P St → St 0 h₂ → (∀ b o, s.heap.get? b = some o → h₂.get? b = some o) → s.heap.objs.size ≤ h₂.objs.size → K (.ref it) { s with heap := h₂, toks := tk }) :
    wpAny (model C.W.prog C.W.w) C.A (pyIter (.ref (s.heap.objs.size + 1))) K (fun _ _ => False) { s with heap := h' } := by
  have el : items.size = ys.length := rs'.length
  have el2 : (ys.mapIdx enumV).length = items.size := by rw [List.length_mapIdx, el]
  refine W.self 0 _ _ _ st0 ?_
  refine hQ (s.heap.objs.size + 1) [s.heap.objs.size + 1, s.heap.objs.size] h' s.toks [s.heap.objs.size + 1, s.heap.objs.size, a] (fun i n₀ h v => ∃ T vals, v = .ref T ∧ h.IsTuple T vals ∧ ∃ t x, items[i]? = some x ∧ vals = #[.int i t, x]) _ ⟨W.frame, fun i s' Q hi st hq => ?_, fun s' Q E st hq => W.done s' Q E (el2 ▸ st) hq, W.self, fun i h st b hb => ?_, fun b hb => ?_, fun b hb => ?_, fun i v n₀ h D' hi L hd hp => ?_⟩ st0 hk (by rw [hsz]; exact Nat.le_add_right _ _)
  · refine W.item i s' _ _ (el2 ▸ hi) st fun T vals h₂ tk hP hT ht hm hk₂ => ⟨_, rfl, ?_⟩
    refine W.go elts n1 pt i T _ _ _ hm fun h₃ st₃ hk₃ => hq _ h₃ tk ⟨T, vals, rfl, ?_, hP⟩ st₃ fun b o hb e => hk₃ b o hb (hk₂ b o hb e)
    exact ht.at fun o e => hk₃ T o (W.apart i T _ hm) e
  · rcases List.mem_cons.mp hb with rfl | hb
    · exact (alive i h st).1
    · obtain rfl := List.mem_singleton.mp hb; exact (alive i h st).2
  · rcases List.mem_cons.mp hb with rfl | hb
    · exact .inl (.head _)
    · rcases List.mem_cons.mp hb with rfl | hb
      · exact .inl (.tail _ (.head _))
      · obtain rfl := List.mem_singleton.mp hb; exact .inr ⟨hlt, src_locked G rv (.inl ⟨_, hs⟩)⟩
  · rcases List.mem_cons.mp hb with rfl | hb
    · exact Nat.le_succ _
    · obtain rfl := List.mem_singleton.mp hb; exact Nat.le_refl _
  · obtain ⟨T, vals, rfl, ht, t, w, hw, rfl⟩ := hp
    rw [D_lock] at L
    obtain ⟨y, hq0⟩ := rs'.get' (i := i) (v := w) (by rw [Array.getElem?_toList]; exact hw)
    exact ⟨enumV i y, by rw [List.getElem?_mapIdx, hq0.1]; rfl, T, _, _, _, _, rfl, ht, rfl, .int _ _, hq0.2.leaves L⟩
theorem one_some {f : V → Option (List V)} {us xs : List V} (h : (match us with | [x] => f x | _ => none) = some xs) : ∃ x, us = [x] ∧ f x = some xs := by
  cases us with
  | nil => exact nn h
  | cons x r =>
    cases r with
    | nil => exact ⟨x, rfl, h⟩
    | cons _ _ => exact nn h
theorem it_enum {elts : List Expr} {n1 : Nat} {pt : Pos} (R : Rm C) (G : Good C σ ls s) {vs : List Value} {us xs : List V} (rs : Reals s.heap (C.D σ) vs us) (h : itXs 2 σ us = some xs) :
    wpAny (model C.W.prog C.W.w) C.A (srcT 2 vs) (fun r s' => Src C (.Tuple elts n1 pt) RealP s σ us xs r s') (fun _ _ => False) s := by
  obtain ⟨x, rfl, h⟩ := one_some (us := us) (xs := xs) (f := fun x => (seqOf σ x).map fun (zs : List V) => zs.mapIdx enumV) h
  obtain ⟨ys, hy, rfl⟩ := Option.map_eq_some_iff.mp h
  obtain ⟨v, rfl, rv⟩ := rs.one
  obtain ⟨a, items, n, rfl, ho, hz, rs'⟩ := seq_at G rv hy
  have hlt : a < s.heap.objs.size := by rcases ho with ho | ho <;> exact Heap.lt_size ho
  have hle : a ≠ s.heap.objs.size + 1 := Nat.ne_of_lt (Nat.lt_succ_of_lt hlt)
  have hli : a ≠ s.heap.objs.size := Nat.ne_of_lt hlt
  rcases ho with ho | ho
  · have hL : s.heap.IsList a items := ⟨_, ho, rfl, n, rfl⟩
    have W := WalksT.enumerate (prog := C.W.prog) (w := C.W.w) (A := C.A) R.hh (s.heap.objs.size + 1) s.heap.objs.size a (Nat.succ_ne_self _) hle hli items
    refine call_enumerate_list hL fun h' he hit hsz hk K hQ => it_enumG G rv hy rs' hlt W (fun i h st => ?_) ⟨⟨_, he⟩, hit, hL.at fun o e => hk a o e⟩ hsz hk hQ
    obtain ⟨⟨_, e1⟩, ⟨_, e2, _⟩, _⟩ := st
    exact ⟨⟨_, e1⟩, _, e2⟩
  · have hL : s.heap.IsTuple a items := ⟨_, ho, rfl, n, rfl⟩
    have W := WalksT.enumerateD (A := C.A) (drawsT (prog := C.W.prog) (w := C.W.w) (A := C.A.in1) R.hh s.heap.objs.size a hli items) (s.heap.objs.size + 1) (Nat.succ_ne_self _) (by simp [hle.symm]) (by simp)
    refine call_enumT ho fun h' he hit hsz hk K hQ => it_enumG G rv hy rs' hlt W (fun i h st => ?_) ⟨⟨_, he⟩, hit, hL.at fun o e => hk a o e⟩ hsz hk hQ
    obtain ⟨⟨_, e1⟩, ⟨_, e2, _⟩, _⟩ := st
    exact ⟨⟨_, e1⟩, _, e2⟩
/-- reversed, over a tuple -/
theorem it_rev {y : Str} {py : Pos} (R : Rm C) (G : Good C σ ls s) {vs : List Value} {us xs : List V} (rs : Reals s.heap (C.D σ) vs us) (h : itXs 3 σ us = some xs) :
    wpAny (model C.W.prog C.W.w) C.A (srcT 3 vs) (fun r s' => Src C (.Name y py) Real s σ us xs r s') (fun _ _ => False) s := by
  obtain ⟨x, rfl, h⟩ := one_some (us := us) (xs := xs) (f := revT) h
  obtain ⟨v, rfl, rv⟩ := rs.one
  cases x with
  | tup ys =>
    obtain rfl := Option.some.inj h
    obtain ⟨a, items, n, rfl, ho, hz, hd, rs'⟩ := rv.tup_i
    have hlt : a < s.heap.objs.size := Heap.lt_size ho
    have el : items.size = ys.length := rs'.length
    have el2 : ys.reverse.length = items.size := by rw [List.length_reverse, el]
    refine call_rv ho hz fun tk K hQ => ?_
    have W := walksR (prog := C.W.prog) (w := C.W.w) (A := C.A) R.hh s.heap.objs.size a (Nat.ne_of_lt hlt) items n hz
    rw [← el2] at W
    have st0 : 0 ≤ ys.reverse.length ∧ IsRv (s.heap.push (rvObj a ((items.size : Int) - 1))) s.heap.objs.size a ((ys.reverse.length : Int) - 1 - ((0 : Nat) : Int)) ∧ (s.heap.push (rvObj a ((items.size : Int) - 1))).get? a = some (tupObj items n) := by
      rw [el2]
      refine ⟨Nat.zero_le _, ?_, Heap.get?_push_of_some _ ho⟩
      rw [Int.natCast_zero, Int.sub_zero]
      exact Heap.get?_push_size _ rfl
    refine rv_iter st0.2.1 (hQ s.heap.objs.size [s.heap.objs.size] _ tk [s.heap.objs.size, a] _ _ (It.of_walks W (fun i h st => ⟨_, st.2.1⟩) (fun b hb => ?_) (Nat.le_refl _) fun i v h' D' hi L hv => ?_) st0 (fun b o e => Heap.get?_push_of_some _ e) (by rw [Heap.size_push]; exact Nat.le_succ _))
    · rcases List.mem_cons.mp hb with rfl | hb
      · exact .inl rfl
      · obtain rfl := List.mem_singleton.mp hb; exact .inr ⟨hlt, src_locked G rv (.inl ⟨_, rfl⟩)⟩
    · rw [D_lock] at L
      rw [el2] at hv
      obtain ⟨y, h1, h2⟩ := rs'.get' (i := items.size - 1 - i) (v := v) (by rw [Array.getElem?_toList]; exact hv)
      refine ⟨y, ?_, h2.leaves L⟩
      rw [List.getElem?_reverse (by rw [List.length_reverse] at hi; exact hi), ← el]; exact h1
  | _ => exact nn h
end
end Mine
end

section

open PySem PyProof.Rows
namespace Mine
section
variable {C C' : Cx} {ls : Ls} {σ σ' τ : View} {s s₁ s₃ : Shared}

/-- into a block of its own -/
theorem Ground.enter {h₂ : Heap} {tk : Nat} (G : Ground C σ s) (hW : C'.W = C.W) (k : ∀ b o, s.heap.get? b = some o → h₂.get? b = some o) (hz : s.heap.objs.size ≤ h₂.objs.size)
    (hN : ∀ a, C'.own a ∨ C'.B a → (C.own a ∨ C.B a) ∨ (s.heap.objs.size ≤ a ∧ ∃ o, h₂.get? a = some o)) (hd : ∀ a, C'.own a → ¬ C'.B a) : Ground C' σ { s with heap := h₂, toks := tk } := by
  have L : Leaves s.heap (C.D σ) h₂ (C'.D σ) := fun b o e hd => by
    refine ⟨k b o e, ?_⟩
    rintro (h | h)
    · exact hd (.inl h)
    · rcases hN b h with h | h
      · exact hd (.inr h)
      · exact absurd (Heap.lt_size e) (Nat.not_lt.mpr h.1)
  refine ⟨(hW ▸ (fun b o e => k b o (G.stays b o e))), (hW ▸ G.same), fun a h => ?_, by rw [hW]; exact Nat.le_trans G.larger hz, fun a c e => (G.sim a c e).leaves L fun o e => k a o e, fun a h => ?_, hd, fun a h => ?_⟩
  · refine hW ▸ ?_
    rcases h with h | h
    · exact G.fresh a (.inl h)
    · rcases hN a h with h | h
      · exact G.fresh a (.inr h)
      · exact Nat.le_trans G.larger h.1
  · rcases hN a h with h | h
    · exact G.apart a h
    · cases q : σ a with
      | none => rfl
      | some c => exact absurd (G.lt (.inl (not_some q))) (Nat.not_lt.mpr h.1)
  · rcases hN a h with h | h
    · refine Exists.elim (G.old a h) ?_; rintro o e; exact ⟨o, k a o e⟩
    · exact h.2

theorem shared_eq {W : Wd} {s₁ s₃ : Shared} (h1 : s₁.gens = W.s₀.gens ∧ s₁.drawn = W.s₀.drawn ∧ s₁.os = W.s₀.os) (h3 : s₃.gens = W.s₀.gens ∧ s₃.drawn = W.s₀.drawn ∧ s₃.os = W.s₀.os) (h : Heap) (tk : Nat) :
    ({ s₃ with heap := h, toks := tk } : Shared) = { s₁ with heap := h, toks := tk } := by
  obtain ⟨a1, a2, a3, a4, a5⟩ := s₁
  skip
  simp at h1 h3
  simp [h1, h3]

/-- out of it; `τ`: the view from then on; `N`: what was made -/
theorem Good.leave {h₄ : Heap} {tk : Nat} {N : Addr → Prop} (G : Good C σ ls s₁) (hW : C'.W = C.W) (hB : ∀ a, C.own a ∨ C.B a → C'.B a) (hN : ∀ a, N a → s₁.heap.objs.size ≤ a ∧ (C'.own a ∨ C'.B a)) (G' : Ground C' σ' s₃) (S : Step N s₁.heap σ s₃.heap σ')
    (k : ∀ b o, ¬ N b → s₃.heap.get? b = some o → h₄.get? b = some o) (hz : s₃.heap.objs.size ≤ h₄.objs.size)
    (hsub : ∀ b, τ b ≠ none → σ' b ≠ none ∨ N b) (hro : ∀ b c, σ' b = some c → τ b = some c)
    (hsim : Leaves s₃.heap (C'.D σ') h₄ (C.D τ) → ∀ a c, τ a = some c → N a → CellAt h₄ (C.D τ) a c) :
    Good C τ ls { s₃ with heap := h₄, toks := tk } ∧ Step C.own s₁.heap σ h₄ τ ∧ Leaves s₃.heap (C'.D σ') h₄ (C.D τ) := by
  have L : Leaves s₃.heap (C'.D σ') h₄ (C.D τ) := fun b o e hd => by
    refine ⟨k b o (fun h => hd (.inr (hN b h).2)) e, ?_⟩
    rintro (h | h)
    · rcases hsub b h with h | h
      · exact hd (.inl h)
      · exact hd (.inr (hN b h).2)
    · exact hd (.inr (.inr (hB b h)))
  have notN : ∀ b o, s₁.heap.get? b = some o → ¬ N b := fun b o e h => absurd (Heap.lt_size e) (Nat.not_lt.mpr (hN b h).1)
  have S' : Step C.own s₁.heap σ h₄ τ := by
    refine ⟨fun b o e hr _ => k b o (notN b o e) (S.keep b o e hr (notN b o e)), Nat.le_trans S.size hz, fun b h1 h2 => ?_, fun b c hb e hr => ?_⟩
    · rcases hsub b h1 with h | h
      · exact S.grow b h h2
      · exact (hN b h).1
    · rcases S.ro b c hb e hr with h | h
      · exact .inl (hro b c h)
      · right
        cases q : τ b with
        | none => rfl
        | some c' =>
          rcases hsub b (not_some q) with h' | h'
          · exact absurd h h'
          · exact absurd hb (Nat.not_lt.mpr (hN b h').1)
  have hs : s₃.gens = C.W.s₀.gens ∧ s₃.drawn = C.W.s₀.drawn ∧ s₃.os = C.W.s₀.os := (hW ▸ G'.same)
  simp only [shared_eq G.same hs]
  refine ⟨G.change S' (fun b hb o e => k b o (notN b o e) (S.keep b o e (Rw.of_none (G.apart b (.inl hb))) (notN b o e))) (fun b h => ?_) (fun b h => ?_) fun b c e => ?_, S', L⟩
  · rcases hsub b h with h | h
    · have := G'.fresh b (.inl h); rwa [hW] at this
    · exact Nat.le_trans G.larger (hN b h).1
  · cases q : τ b with
    | none => rfl
    | some c =>
      rcases hsub b (not_some q) with h' | h'
      · exact absurd (G'.apart b (.inr (hB b h))) h'
      · exact absurd (G.toGround.lt (.inr h)) (Nat.not_lt.mpr (hN b h').1)
  · by_cases q : N b
    · exact hsim L b c e q
    · have hb : σ' b = some c := by
        cases q2 : σ' b with
        | some c' => have := hro b c' q2; rw [e] at this; exact this.symm
        | none =>
          rcases hsub b (not_some e) with h | h
          · exact absurd q2 h
          · exact absurd h q
      exact (G'.sim b c hb).leaves L fun o eo => k b o q eo

theorem Good.changeX {X : List Addr} {h' : Heap} {tk : Nat} (G : Good C σ ls s) (S : Step C.own s.heap σ h' τ)
    (own : ∀ b, C.own b → ∀ o, s.heap.get? b = some o → h'.get? b = some o)
    (sub : ∀ a, τ a ≠ none → C.W.s₀.heap.objs.size ≤ a) (ap : ∀ a, C.own a ∨ C.B a → τ a = none)
    (hX : ∀ a ∈ X, s.heap.objs.size ≤ a ∧ (∃ o, h'.get? a = some o) ∧ τ a = none)
    (sim : ∀ a c, τ a = some c → CellAt h' ((C.more X).D τ) a c) : Good (C.more X) τ ls { s with heap := h', toks := tk } := by
  have keepOB : ∀ b, C.own b ∨ C.B b → ∀ o, s.heap.get? b = some o → h'.get? b = some o := fun b hb o e => by
    rcases hb with hb | hb
    · exact own b hb o e
    · exact S.keep b o e (Rw.of_none (G.apart b (.inr hb))) fun ho => G.apart2 b ho hb
  have L₀ := G.leaves S
  have L : Leaves s.heap (C.D σ) h' ((C.more X).D τ) := fun b o e hd => by
    refine ⟨(L₀ b o e hd).1, fun h => ?_⟩
    rcases (D_more b).mp h with h | h
    · exact (L₀ b o e hd).2 h
    · exact absurd (Heap.lt_size e) (Nat.not_lt.mpr (hX b h).1)
  have F := G.fr
  refine Exists.elim F.ns ?_; rintro m hm
  refine ⟨⟨fun b o e => ?_, G.same, fun a h => ?_, Nat.le_trans G.larger S.size, sim, fun a h => ?_, fun a h hb => ?_, fun a h => ?_⟩,
    ⟨F.kind, F.glob, F.blt, ⟨m, hm.at' fun o e => keepOB _ (.inl F.ownL) o e⟩, F.ownL, fun x c e => ?_, F.inj, fun i x d e1 e2 e3 => ?_, F.nodup, F.has⟩⟩
  · have hd : ¬ C.D σ b := fun hd => absurd (Heap.lt_size e) (Nat.not_lt.mpr (G.fresh b hd))
    exact (L₀ b o (G.stays b o e) hd).1
  · rcases (D_more a).mp h with (h | h) | h
    · exact sub a h
    · exact G.fresh a (.inr h)
    · exact Nat.le_trans G.larger (hX a h).1
  · rcases h with h | h | h
    · exact ap a (.inl h)
    · exact ap a (.inr h)
    · exact (hX a h).2.2
  · rcases hb with hb | hb
    · exact G.apart2 a h hb
    · exact absurd (G.toGround.lt (.inr (.inl h))) (Nat.not_lt.mpr (hX a hb).1)
  · rcases h with h | h | h
    · refine Exists.elim (G.old a (.inl h)) ?_; rintro o e; exact ⟨o, keepOB a (.inl h) o e⟩
    · refine Exists.elim (G.old a (.inr h)) ?_; rintro o e; exact ⟨o, keepOB a (.inr h) o e⟩
    · exact (hX a h).2.1
  · obtain ⟨h1, h2, v, o, hq1⟩ := F.cells x c e
    exact ⟨h1.imp id .inl, h2, v, o, keepOB c h1 o hq1.1, hq1.2⟩
  · obtain ⟨v, hq0⟩ := F.val i x d e1 e2 e3
    refine ⟨v, hq0.1.at fun b hb o e => ?_, hq0.2.leaves L⟩
    rcases hb with rfl | ⟨y, hy⟩
    · exact keepOB _ (.inl F.ownL) o e
    · exact keepOB b (F.cells y b hy).1 o e

theorem Good.leaveX {X : List Addr} {h₄ : Heap} {tk : Nat} {N : Addr → Prop} (G : Good C σ ls s₁) (hW : C'.W = C.W) (hB : ∀ a, C.own a ∨ C.B a → C'.B a) (hN : ∀ a, N a → s₁.heap.objs.size ≤ a ∧ (C'.own a ∨ C'.B a)) (G' : Ground C' σ' s₃) (S : Step N s₁.heap σ s₃.heap σ')
    (k : ∀ b o, ¬ N b → s₃.heap.get? b = some o → h₄.get? b = some o) (hz : s₃.heap.objs.size ≤ h₄.objs.size)
    (hsub : ∀ b, τ b ≠ none → σ' b ≠ none ∨ N b) (hro : ∀ b c, σ' b = some c → τ b = some c) (hX : ∀ a ∈ X, N a ∧ (∃ o, h₄.get? a = some o) ∧ τ a = none)
    (hsim : Leaves s₃.heap (C'.D σ') h₄ ((C.more X).D τ) → ∀ a c, τ a = some c → N a → CellAt h₄ ((C.more X).D τ) a c) :
    Good (C.more X) τ ls { s₃ with heap := h₄, toks := tk } ∧ Step C.own s₁.heap σ h₄ τ ∧ Leaves s₃.heap (C'.D σ') h₄ ((C.more X).D τ) := by
  have L : Leaves s₃.heap (C'.D σ') h₄ ((C.more X).D τ) := fun b o e hd => by
    refine ⟨k b o (fun h => hd (.inr (hN b h).2)) e, fun h => ?_⟩
    rcases (D_more b).mp h with (h | h) | h
    · rcases hsub b h with h | h
      · exact hd (.inl h)
      · exact hd (.inr (hN b h).2)
    · exact hd (.inr (.inr (hB b h)))
    · exact hd (.inr (hN b (hX b h).1).2)
  have notN : ∀ b o, s₁.heap.get? b = some o → ¬ N b := fun b o e h => absurd (Heap.lt_size e) (Nat.not_lt.mpr (hN b h).1)
  have S' : Step C.own s₁.heap σ h₄ τ := by
    refine ⟨fun b o e hr _ => k b o (notN b o e) (S.keep b o e hr (notN b o e)), Nat.le_trans S.size hz, fun b h1 h2 => ?_, fun b c hb e hr => ?_⟩
    · rcases hsub b h1 with h | h
      · exact S.grow b h h2
      · exact (hN b h).1
    · rcases S.ro b c hb e hr with h | h
      · exact .inl (hro b c h)
      · right
        cases q : τ b with
        | none => rfl
        | some c' =>
          rcases hsub b (not_some q) with h' | h'
          · exact absurd h h'
          · exact absurd hb (Nat.not_lt.mpr (hN b h').1)
  have hs : s₃.gens = C.W.s₀.gens ∧ s₃.drawn = C.W.s₀.drawn ∧ s₃.os = C.W.s₀.os := (hW ▸ G'.same)
  simp only [shared_eq G.same hs]
  refine ⟨G.changeX S' (fun b hb o e => k b o (notN b o e) (S.keep b o e (Rw.of_none (G.apart b (.inl hb))) (notN b o e))) (fun b h => ?_) (fun b h => ?_) (fun a h => ⟨(hN a (hX a h).1).1, (hX a h).2⟩) fun b c e => ?_, S', L⟩
  · rcases hsub b h with h | h
    · have := G'.fresh b (.inl h); rwa [hW] at this
    · exact Nat.le_trans G.larger (hN b h).1
  · cases q : τ b with
    | none => rfl
    | some c =>
      rcases hsub b (not_some q) with h' | h'
      · exact absurd (G'.apart b (.inr (hB b h))) h'
      · exact absurd (G.toGround.lt (.inr h)) (Nat.not_lt.mpr (hN b h').1)
  · by_cases q : N b
    · exact hsim L b c e q
    · have hb : σ' b = some c := by
        cases q2 : σ' b with
        | some c' => have := hro b c' q2; rw [e] at this; exact this.symm
        | none =>
          rcases hsub b (not_some e) with h | h
          · exact absurd q2 h
          · exact absurd h q
      exact (G'.sim b c hb).leaves L fun o eo => k b o q eo
end
end Mine
end

section

open PySem PyProof.Rows
namespace Mine

noncomputable def relab (outer names : List (Str × NameKind)) : List (Str × NameKind) := names.map fun (n, k) => if (k == .free && outer.lookup n == some .cell) then (n, .cell) else (n, k)
noncomputable def Sc.comp (S : Sc) (scope : Scope) : Sc := { names := relab S.names scope.names, vars := S.vars }
/-- a comprehension's names; ys: its targets -/
noncomputable def compOk (S : Sc) (scope : Scope) (ys : List Str) : Bool :=
  scope.kind == .function && ys.all (fun y => scope.names.lookup y == some .local) &&
  scope.names.all fun (n, k) => k != .cell && scope.names.lookup n == some k && (k != .free || S.names.lookup n == some .cell || S.names.lookup n == some .free) && (k != .local || ys.contains n || !S.vars.contains n)

noncomputable def closOf (cells : List (Str × Addr)) : List (Str × NameKind) → List (Str × Addr) → Option (List (Str × Addr))
  | [], acc => some acc
  | (n, k) :: r, acc => if k == .free then (match cells.lookup n with | some c => closOf cells r ((n, c) :: acc) | none => none) else closOf cells r acc

theorem closureFor_of {scope : Scope} {env : Env} {cl : List (Str × Addr)} (h : closOf env.cells scope.names [] = some cl) : closureFor scope env = pure cl := by
  dsimp only [closureFor]
  have key : ∀ (names : List (Str × NameKind)) (acc : List (Str × Addr)), closOf env.cells names acc = some cl →
      (forIn names acc fun x r => (match x with
        | (name, kind) => if (kind == .free) = true then do let c ← cellOf env name; pure (ForInStep.yield ((name, c) :: r)) else pure (ForInStep.yield r)) : Sem (List (Str × Addr))) = pure cl := by
    intro names
    induction names with
    | nil => intro acc h; replace h := Option.some.inj h; subst h; rfl
    | cons x r ih =>
      intro acc h
      skip
      simp only [List.forIn_cons]
      simp only [closOf] at h
      split at h
      · rename_i hk
        split at h
        · rename_i c hc
          have : cellOf env x.1 = pure c := by unfold cellOf; rw [hc]
          simp only [hk, if_true, this, pure_bind]
          exact ih _ h
        · exact nn h
      · rename_i hk
        simp only [hk, if_false, pure_bind]
        exact ih _ h
  have := key scope.names [] h
  simp only [this, pure_bind]

theorem closOf_mem (cells : List (Str × Addr)) : ∀ (names : List (Str × NameKind)) (acc cl : List (Str × Addr)), closOf cells names acc = some cl → (∀ n c, acc.lookup n = some c → cells.lookup n = some c) → ∀ n c, cl.lookup n = some c → cells.lookup n = some c
  | [], acc, cl, h, ha, n, c, e => by simp [closOf] at h; subst h; exact ha n c e
  | (m, k) :: r, acc, cl, h, ha, n, c, e => by
    simp only [closOf] at h
    split at h
    · split at h
      · rename_i c' hc
        refine closOf_mem cells r _ cl h (fun n' c'' e' => ?_) n c e
        rw [List.lookup_cons] at e'
        split at e'
        · rename_i q; cases e'; rw [beq_iff_eq.mp q]; exact hc
        · exact ha n' c'' e'
      · cases h
    · exact closOf_mem cells r acc cl h ha n c e
theorem closOf_has (cells : List (Str × Addr)) : ∀ (names : List (Str × NameKind)) (acc cl : List (Str × Addr)), closOf cells names acc = some cl → (∀ n, ((acc.lookup n).isSome = true ∨ names.lookup n = some .free) → (cl.lookup n).isSome = true)
  | [], acc, cl, h, n, hn => by simp [closOf] at h; subst h; simpa using hn
  | (m, k) :: r, acc, cl, h, n, hn => by
    simp only [closOf] at h
    split at h
    · rename_i hk
      split at h
      · rename_i c' hc
        refine closOf_has cells r _ cl h n ?_
        by_cases q : n = m
        · subst q; left; simp [List.lookup_cons]
        · have hb : (n == m) = false := by simpa using q
          rcases hn with hn | hn
          · left; rw [List.lookup_cons, hb]; exact hn
          · right; rw [List.lookup_cons, hb] at hn; exact hn
      · cases h
    · rename_i hk
      refine closOf_has cells r acc cl h n ?_
      rcases hn with hn | hn
      · exact .inl hn
      · by_cases q : n = m
        · subst q; simp [List.lookup_cons] at hn; subst hn; simp at hk
        · have hb : (n == m) = false := by simpa using q
          right; rw [List.lookup_cons, hb] at hn; exact hn
theorem closOf_some (cells : List (Str × Addr)) : ∀ (names : List (Str × NameKind)) (acc : List (Str × Addr)), (∀ n, (n, NameKind.free) ∈ names → ∃ c, cells.lookup n = some c) → ∃ cl, closOf cells names acc = some cl
  | [], acc, _ => ⟨acc, rfl⟩
  | (m, k) :: r, acc, h => by
    simp only [closOf]
    split
    · rename_i hk
      have hk' : k = .free := by simpa using hk
      subst hk'
      obtain ⟨c, hc⟩ := h m (.head _)
      refine hc ▸ ?_
      exact closOf_some cells r _ fun n hn => h n (.tail _ hn)
    · exact closOf_some cells r acc fun n hn => h n (.tail _ hn)

theorem relab_lookup (outer : List (Str × NameKind)) : ∀ (names : List (Str × NameKind)) (n : Str), (relab outer names).lookup n = (names.lookup n).map fun k => if (k == .free && outer.lookup n == some .cell) then .cell else k
  | [], n => rfl
  | (m, k) :: r, n => by
    have ih := relab_lookup outer r n
    unfold relab at *
    simp only [List.map_cons]
    by_cases q : n = m
    · subst q
      split <;> rename_i h <;> simp only [List.lookup_cons, beq_self_eq_true, Option.map_some]
      · rw [if_pos h]
      · rw [if_neg h]
    · have hb : (n == m) = false := by simpa using q
      split <;> simp only [List.lookup_cons, hb] <;> exact ih

theorem nodup_inj {α : Type} : ∀ {l : List α}, l.Nodup → ∀ {i j : Nat} {x : α}, l[i]? = some x → l[j]? = some x → i = j
  | [], _, i, j, x, h, _ => by simp at h
  | a :: r, hn, i, j, x, h1, h2 => by
    obtain ⟨ha, hr⟩ := List.nodup_cons.mp hn
    cases i with
    | zero =>
      cases j with
      | zero => rfl
      | succ j =>
        simp at h1 h2; subst h1
        exact absurd (List.mem_iff_getElem?.mpr ⟨j, h2⟩) ha
    | succ i =>
      cases j with
      | zero =>
        simp at h1 h2; subst h2
        exact absurd (List.mem_iff_getElem?.mpr ⟨i, h1⟩) ha
      | succ j => simp at h1 h2; rw [nodup_inj hr h1 h2]
noncomputable def Cx.comp (C : Cx) (scope : Scope) (cl : List (Str × Addr)) (L acc : Addr) (wr : List Addr) : Cx :=
  { W := C.W, A := C.A, env := compEnvC scope cl L C.env, vars := C.vars, own := fun a => a = L, B := fun a => (C.own a ∨ C.B a) ∨ a = acc ∨ a ∈ wr }
noncomputable def Ls.erase (ls : Ls) (ys : List Nat) : Ls := fun j => if j ∈ ys then none else ls j

section
variable {C : Cx} {S : Sc} {ls : Ls} {σ : View} {s : Shared} {scope : Scope} {cl : List (Str × Addr)} {L acc : Addr} {wr : List Addr} {ys : List Str} {xs : List Nat}

theorem comp_names (hS : S.Of C) (hk : C.env.scope.kind = .function) : (relabel scope C.env).names = relab S.names scope.names := by
  dsimp only [relabel, relab]
  simp only [hk, kindOf_eq hS, beq_self_eq_true, Bool.and_true]
theorem comp_of (hS : S.Of C) (hk : C.env.scope.kind = .function) : (S.comp scope).Of (C.comp scope cl L acc wr) := ⟨comp_names hS hk, hS.vars⟩

theorem compOk_parts (h : compOk S scope ys = true) : scope.kind = .function ∧ (∀ y ∈ ys, scope.names.lookup y = some .local) ∧
    ∀ n k, (n, k) ∈ scope.names → k ≠ .cell ∧ scope.names.lookup n = some k ∧ (k = .free → S.names.lookup n = some .cell ∨ S.names.lookup n = some .free) ∧ (k = .local → n ∈ ys ∨ n ∉ S.vars) := by
  dsimp only [compOk] at h
  simp only [Bool.and_eq_true, beq_iff_eq, List.all_eq_true, Bool.or_eq_true, bne_iff_ne, Prod.forall] at h
  refine ⟨h.1.1, h.1.2, fun n k hm => ?_⟩
  obtain ⟨⟨⟨h1, h2⟩, h3⟩, h4⟩ := h.2 n k hm
  refine ⟨h1, h2, fun hk => ?_, fun hk => ?_⟩
  · rcases h3 with (h3 | h3) | h3
    · exact absurd hk h3
    · exact .inl h3
    · exact .inr h3
  · rcases h4 with (h4 | h4) | h4
    · exact absurd hk h4
    · exact .inl (by simpa using h4)
    · exact .inr (by simpa using h4)

theorem mem_of_lookup' {α : Type} {l : List (Str × α)} {n : Str} {c : α} (h : l.lookup n = some c) : (n, c) ∈ l := mem_of_lookup h

/-- the comprehension's frame -/
theorem comp_fr (hS : S.Of C) (G : Good C σ ls s) (h : compOk S scope ys = true) (hcl : closOf C.env.cells scope.names [] = some cl) {h₄ : Heap} (k : ∀ b o, s.heap.get? b = some o → h₄.get? b = some o)
    (hL : s.heap.objs.size ≤ L) (hns : ∃ m, h₄.Ns L m) (hxs : ∀ y ∈ ys, ∃ i ∈ xs, S.vars[i]? = some y) (hO : ∀ a, (C.comp scope cl L acc wr).own a ∨ (C.comp scope cl L acc wr).B a → (C.own a ∨ C.B a) ∨ s.heap.objs.size ≤ a) :
    FrOK (C.comp scope cl L acc wr) σ (ls.erase xs) h₄ := by
  obtain ⟨hk, hy, hn⟩ := compOk_parts h
  have F := G.fr
  have hkind : ∀ x, (C.comp scope cl L acc wr).env.kindOf x = (scope.names.lookup x).map fun k => if (k == .free && S.names.lookup x == some .cell) then .cell else k := by
    intro x
    rw [kindOf_eq (comp_of hS F.kind)]
    exact relab_lookup S.names scope.names x
  have free_of : ∀ x, ((C.comp scope cl L acc wr).env.kindOf x = some .cell ∨ (C.comp scope cl L acc wr).env.kindOf x = some .free) → scope.names.lookup x = some .free := by
    intro x hx
    rw [hkind x] at hx
    cases hq : scope.names.lookup x with
    | none => simp only [hq] at hx; simp at hx
    | some k' =>
      have hm := hn x k' (mem_of_lookup' hq)
      simp only [hq] at hx
      simp only [Option.map_some, Option.some.injEq] at hx
      by_cases hf : k' = .free
      · rw [hf]
      · exfalso
        have : (k' == NameKind.free) = false := by simpa using hf
        simp only [this, Bool.false_and, Bool.false_eq_true, if_false] at hx
        rcases hx with hx | hx
        · exact hm.1 hx
        · exact hf hx
  have clmem := closOf_mem C.env.cells scope.names [] cl hcl (by intro n c e; exact nn e)
  have clhas := closOf_has C.env.cells scope.names [] cl hcl
  refine ⟨by simp [Cx.comp, compEnvC, relabel, hk], F.glob, F.blt, hns, rfl, fun x c e => ?_, fun x y c e1 e2 => F.inj x y c (clmem x c e1) (clmem y c e2), fun i x d e1 e2 e3 => ?_, F.nodup, fun x hx => ?_⟩
  · obtain ⟨h1, h2, v, hv⟩ := F.cells x c (clmem x c e)
    refine ⟨.inr (.inl h1), ?_, v, hv.keeps k⟩
    refine Exists.elim hv ?_; rintro o hq2
    exact fun q => absurd (Heap.lt_size hq2.1) (Nat.not_lt.mpr (((show c = L from q) ▸ hL)))
  · have hi : i ∉ xs ∧ ls i = some d := by
      unfold Ls.erase at e3
      split at e3
      · exact nn e3
      · rename_i q; exact ⟨q, e3⟩
    have e1' : S.vars[i]? = some x := (hS.vars ▸ e1)
    have hloc : (C.comp scope cl L acc wr).env.kindOf x ≠ some .local := by
      intro hx
      rw [hkind x] at hx
      cases hq : scope.names.lookup x with
      | none => rw [hq] at hx; exact nn hx
      | some k' =>
        replace hx := hq ▸ hx
        simp only [Option.map_some, Option.some.injEq] at hx
        have hk' : k' = .local := by
          split at hx
          · cases hx
          · exact hx
        subst hk'
        rcases (hn x _ (mem_of_lookup' hq)).2.2.2 rfl with h1 | h1
        · refine Exists.elim (hxs x h1) ?_; rintro j hq1
          have : i = j := by
            have hnd : S.vars.Nodup := (hS.vars ▸ F.nodup)
            exact nodup_inj hnd e1' hq1.2
            
          exact hi.1 (this ▸ hq1.1)
        · exact h1 (List.mem_iff_getElem?.mpr ⟨i, e1'⟩)
    have hcf : (C.comp scope cl L acc wr).env.kindOf x = some .cell ∨ (C.comp scope cl L acc wr).env.kindOf x = some .free := by
      rcases e2 with e2 | e2 | e2
      · exact absurd e2 hloc
      · exact .inl e2
      · exact .inr e2
    have hfr := free_of x hcf
    have hout := (hn x _ (mem_of_lookup' hfr)).2.2.1 rfl
    have hout' : C.env.kindOf x = some .cell ∨ C.env.kindOf x = some .free := by rw [kindOf_eq hS]; exact hout
    obtain ⟨v, hq0⟩ := F.val i x d e1 (.inr hout') hi.2
    refine ⟨v, .inr ⟨hcf, ?_⟩, ?_⟩
    · rcases hq0.1 with ⟨hl, _⟩ | ⟨_, c, hc, hcell⟩
      · rcases hout' with h1 | h1 <;> rw [h1] at hl <;> cases hl
      · have := clhas x (.inr hfr)
        refine Exists.elim (Option.isSome_iff_exists.mp this) ?_; rintro c' hc'
        have := clmem x c' hc'
        rw [hc] at this; cases this
        exact ⟨c, hc', hcell.keeps k⟩
    · refine hq0.2.leaves fun b o e hd => ⟨k b o e, ?_⟩
      rintro (h1 | h1)
      · exact hd (.inl h1)
      · rcases hO b h1 with h1 | h1
        · exact hd (.inr h1)
        · exact absurd (Heap.lt_size e) (Nat.not_lt.mpr h1)
  · have := clhas x (.inr (free_of x hx))
    exact Option.isSome_iff_exists.mp this
end
end Mine
end

section

open PySem PyProof.Rows
namespace Mine
theorem ns_unique {h : Heap} {a : Addr} {m m' : Str → Option Value} (x : h.Ns a m) (y : h.Ns a m') (n : Str) : m n = m' n := by
  refine Exists.elim x fun o hx => ?_; obtain ⟨es, ep, ho, hd, hq1⟩ := hx
  refine Exists.elim y fun o' hx => ?_; obtain ⟨es', ep', ho', hd', hq0⟩ := hx
  cases Eq.trans (Eq.symm ho) ho'
  rw [hd] at hd'; cases hd'
  simp only [← hq1.2, ← hq0.2]
section
variable {C : Cx} {S : Sc} {ls : Ls} {σ : View} {s : Shared} {x : Str} {i : Nat} {v : Value} {d : V}

theorem store_good {h' : Heap} {tk : Nat} {L : Addr} (G : Good C σ ls s) (hL : C.own L ∨ C.B L) (hO : C.own L) (hi : C.vars[i]? = some x) (hs : Heap.SameBut L s.heap h') (r : Real s.heap (C.D σ) v d)
    (ex : ∃ o, h'.get? L = some o) (hx : HasVal h' C.env x v) (hns : ∃ m, h'.Ns C.env.locals m) (hcell : ∀ y c, C.env.cells.lookup y = some c → ∃ v, h'.IsCell c v)
    (hv : ∀ y w, y ≠ x → HasVal s.heap C.env y w → HasVal h' C.env y w) : Good C σ (ls.set i d) { s with heap := h', toks := tk } ∧ Step C.own s.heap σ h' σ := by
  have S : Step C.own s.heap σ h' σ := ⟨fun b o e _ ho => hs.extBut b o (fun q => ho (q ▸ hO)) e, Nat.le_of_eq hs.1.symm, fun _ h1 h2 => absurd h2 h1, fun _ _ _ e _ => .inl e⟩
  have Lv := G.leaves S
  have F := G.fr
  refine ⟨⟨⟨fun b o e => ?_, G.same, G.fresh, Nat.le_trans G.larger S.size, fun a c e => (G.sim a c e).leaves Lv fun o e' => ?_, G.apart, G.apart2, fun a h => ?_⟩,
    ⟨F.kind, F.glob, F.blt, hns, F.ownL, fun y c e => ?_, F.inj, fun j y d' e1 e2 e3 => ?_, F.nodup, F.has⟩⟩, S⟩
  · have hd : ¬ C.D σ b := fun hd => absurd (Heap.lt_size e) (Nat.not_lt.mpr (G.fresh b hd))
    exact (Lv b o (G.stays b o e) hd).1
  · refine hs.extBut a o (fun q => ?_) e'
    subst q
    have := G.apart a hL; rw [e] at this; exact nn (Eq.symm this)
  · by_cases q : a = L
    · exact q ▸ ex
    · refine Exists.elim (G.old a h) ?_; rintro o e; exact ⟨o, hs.extBut a o q e⟩
  · have hq1 := F.cells y c e
    exact ⟨hq1.1, hq1.2.1, hcell y c e⟩
  · unfold Ls.set at e3
    split at e3
    · rename_i q
      cases e3; subst q
      rw [hi] at e1; cases e1
      exact ⟨v, hx, r.leaves Lv⟩
    · rename_i q
      refine Exists.elim (F.val j y d' e1 e2 e3) ?_; rintro w hq0
      exact ⟨w, hv y w (fun e => q (nodup_inj F.nodup e1 ((e ▸ hi)))) hq0.1, hq0.2.leaves Lv⟩

theorem store (G : Good C σ ls s) (hi : C.vars[i]? = some x) (hk : C.env.kindOf x = some .local ∨ (C.env.kindOf x = some .cell ∧ ∀ c, C.env.cells.lookup x = some c → C.own c)) (r : Real s.heap (C.D σ) v d) {Q : Unit → Shared → Prop} {E : Value → Shared → Prop}
    (h : ∀ s', Good C σ (ls.set i d) s' → Step C.own s.heap σ s'.heap σ → Q () s') : wpAny (model C.W.prog C.W.w) C.A (storeName C.env x v) Q E s := by
  have F := G.fr
  rcases hk with hk | ⟨hk, hown⟩
  · refine Exists.elim F.ns ?_; rintro m hm
    refine wpAny_storeName_local hk hm (fun h' hn' hs' => ?_) (by rw [F.kind]; rfl)
    have := store_good (tk := s.toks + 1) G (.inl F.ownL) F.ownL hi hs' r (by refine Exists.elim hn' fun o hx => ?_; obtain ⟨_, _, hq1⟩ := hx; exact ⟨o, hq1.1⟩) (.inl ⟨hk, _, hn', by simp⟩) ⟨_, hn'⟩ (fun y c e => ?_) fun y w hy hw => ?_
    · exact h _ this.1 this.2
    · obtain ⟨_, h2, v', hv'⟩ := F.cells y c e
      exact ⟨v', hv'.sameBut hs' h2⟩
    · rcases hw with ⟨hl, m', hm', e⟩ | ⟨hc, c, hc', hcell⟩
      · refine .inl ⟨hl, _, hn', ?_⟩
        simp only [hy, if_false]
        refine e ▸ ?_
        exact ns_unique hm hm' y
      · exact .inr ⟨hc, c, hc', hcell.sameBut hs' (F.cells y c hc').2.1⟩
  · refine Exists.elim (F.has x (.inl hk)) ?_; rintro c hc
    obtain ⟨h1, h2, v₀, hv₀⟩ := F.cells x c hc
    refine Exists.elim F.ns ?_; rintro m hm
    refine wpAny_storeName_cell F.kind hk hc hv₀ fun h' hc' hs' => ?_
    have := store_good (tk := s.toks) G h1 (hown c hc) hi hs' r (by refine Exists.elim hc' ?_; rintro o hq0; exact ⟨o, hq0.1⟩) (.inr ⟨.inl hk, c, hc, hc'⟩) ⟨m, hm.sameBut hs' (Ne.symm h2)⟩ (fun y c' e => ?_) fun y w hy hw => ?_
    · exact h _ this.1 this.2
    · by_cases q : c' = c
      · subst q; exact ⟨_, hc'⟩
      · obtain ⟨_, _, v', hv'⟩ := F.cells y c' e
        exact ⟨v', hv'.sameBut hs' q⟩
    · rcases hw with ⟨hl, m', hm', e⟩ | ⟨hcc, c', hc'', hcell⟩
      · exact .inl ⟨hl, m', hm'.sameBut hs' (Ne.symm h2), e⟩
      · refine .inr ⟨hcc, c', hc'', hcell.sameBut hs' fun q => hy ?_⟩
        subst q
        exact F.inj y x _ hc'' hc

/-- what an assignment to a target does -/
noncomputable def Asg (C : Cx) (tgt : Expr) (Rp : Heap → (Addr → Prop) → Value → V → Prop) (up : V → Ls → Ls) : Prop :=
  ∀ (σ : View) (ls : Ls) (s : Shared) (v : Value) (x : V), Good C σ ls s → Rp s.heap (C.D σ) v x → wpAny (model C.W.prog C.W.w) C.A (assign tgt C.env v) (fun _ s' => Good C σ (up x ls) s' ∧ Step C.own s.heap σ s'.heap σ) (fun _ _ => False) s
noncomputable def rpOf : Tg → Heap → (Addr → Prop) → Value → V → Prop
  | .one _ => Real
  | .two _ _ => RealP
noncomputable def Stor (C : Cx) (x : Str) : Prop := C.env.kindOf x = some .local ∨ (C.env.kindOf x = some .cell ∧ ∀ c, C.env.cells.lookup x = some c → C.own c)
theorem asg1 {px : Pos} (hi : C.vars[i]? = some x) (hk : Stor C x) : Asg C (.Name x px) Real (Tg.up (.one i)) := fun _ _ _ _ _ G r => wpAny_assign_Name (store G hi hk r fun _ G' S' => ⟨G', S'⟩)
theorem asg2 {px py pt : Pos} {n1 : Nat} {y : Str} {j : Nat} (hh : C.A.handled = none) (hi : C.vars[i]? = some x) (hk : Stor C x) (hj : C.vars[j]? = some y) (hk' : Stor C y) : Asg C (.Tuple [.Name x px, .Name y py] n1 pt) RealP (Tg.up (.two i j)) := by
  rintro σ ls s v z G ⟨T, v1, v2, p, q, rfl, ht, rfl, r1, r2⟩
  have hu : wpAny (model C.W.prog C.W.w) C.A (unpackItems (.ref T) (#[v1, v2] : Array Value).size none) (fun vs s' => s.heap.objs.size ≤ s'.heap.objs.size ∧ ∃ h', vs = [v1, v2] ∧ s' = { s with heap := h' } ∧ Heap.ExtBut s.heap.objs.size s.heap h') (fun _ s' => s.heap.objs.size ≤ s'.heap.objs.size ∧ False) s :=
    wpAny_size (wpAny_unpackItems_tuple hh ht fun h' hx => ⟨h', rfl, rfl, hx⟩)
  skip
  refine wpAny_bind (wpAny_standAt ?_)
  show wpAny _ _ (unpack (.ref T) (assignEach [.Name x px, .Name y py] C.env)) _ _ s
  skip
  skip
  refine wpAny_bind (wpAny_holding (wpAny_mono hu (?_) fun _ _ x => x.2))
  rintro vs s' ⟨hz, h', e1, e2, hx⟩
  subst e1; subst e2
  obtain ⟨G₁, S₁, L₁⟩ := G.quietW (wr := []) (tk := s.toks) (h' := h') (fun _ h => nomatch h) (fun h => ((List.not_mem_nil h).elim)) (fun _ _ _ h => nomatch h) hz (fun b o _ e => hx b o (Nat.ne_of_lt (Heap.lt_size e)) e) (fun _ h => nomatch h)
  have S₁ := S₁ C.own fun _ h => nomatch h
  show wpAny _ _ (do holding [v2] (assign (.Name x px) C.env v1); do holding [] (assign (.Name y py) C.env v2); pure ()) _ _ _
  refine wpAny_bind (wpAny_holding (wpAny_assign_Name (store G₁ hi hk (r1.leaves L₁) fun s₂ G₂ S₂ => ?_)))
  refine wpAny_bind (wpAny_holding (wpAny_assign_Name (store G₂ hj hk' ((r2.leaves L₁).step G₁ S₂) fun s₃ G₃ S₃ => wpAny_pure ⟨G₃, (S₁.trans S₂).trans S₃⟩)))
end
end Mine
end

section

open PySem PyProof.Rows
namespace Mine
section
variable {C : Cx} {S : Sc} {ls : Ls} {σ₁ : View} {s₁ : Shared}

theorem It.item' {tgt : Expr} {Rp : Heap → (Addr → Prop) → Value → V → Prop} {xs : List V} {it : Addr} {wr fp : List Addr} {P : Nat → Nat → Heap → Value → Prop} {St : Nat → Heap → Prop} {σ₀ : View} (I : It C s₁ σ₀ tgt Rp it wr xs fp P St) {i : Nat} {s : Shared} {Q : Value → Shared → Prop} {K : Option Value → Shared → Prop} {E : Value → Shared → Prop} (hi : i < xs.length) (st : St i s.heap) (hK : ∀ v s₂, wpAny (model C.W.prog C.W.w) C.A (letOwnedTupleGo tgt (.ref it) v) (fun _ s₃ => Q v s₃) (fun _ _ => False) s₂ → K (some v) s₂)
    (h : ∀ v h' tk, P i s.heap.objs.size h' v → St (i + 1) h' → (∀ b o, b ∉ wr → s.heap.get? b = some o → h'.get? b = some o) → s.heap.objs.size ≤ h'.objs.size → Q v { s with heap := h', toks := tk }) :
    wpAny (model C.W.prog C.W.w) C.A (pyNext (.ref it)) K E s := by
  refine wpAny_mono (wpAny_size (I.item i s (fun v s' => ∃ h' tk, s' = { s with heap := h', toks := tk } ∧ P i s.heap.objs.size h' v ∧ St (i + 1) h' ∧ ∀ b o, b ∉ wr → s.heap.get? b = some o → h'.get? b = some o) hi st fun v h' tk a b c => ⟨h', tk, rfl, a, b, c⟩)) ?_ fun _ _ h => h.2.elim
  rintro r s₂ ⟨hz, v, e, hw⟩
  subst e
  refine hK v s₂ (wpAny_mono (wpAny_size hw) ?_ fun _ _ h => h.2)
  rintro _ s₃ ⟨hz', h', tk, rfl, a, b, c⟩
  exact h v h' tk a b c (Nat.le_trans hz hz')
theorem It.done' {tgt : Expr} {Rp : Heap → (Addr → Prop) → Value → V → Prop} {xs : List V} {it : Addr} {wr fp : List Addr} {P : Nat → Nat → Heap → Value → Prop} {St : Nat → Heap → Prop} {σ₀ : View} (I : It C s₁ σ₀ tgt Rp it wr xs fp P St) {s : Shared} {Q : Option Value → Shared → Prop} {E : Value → Shared → Prop} (st : St xs.length s.heap)
    (h : ∀ h' tk, (∀ b o, b ∉ wr → s.heap.get? b = some o → h'.get? b = some o) → s.heap.objs.size ≤ h'.objs.size → Q none { s with heap := h', toks := tk }) :
    wpAny (model C.W.prog C.W.w) C.A (pyNext (.ref it)) Q E s := by
  refine wpAny_mono (wpAny_size (I.done s (fun r s' => ∃ h' tk, r = none ∧ s' = { s with heap := h', toks := tk } ∧ ∀ b o, b ∉ wr → s.heap.get? b = some o → h'.get? b = some o) E st fun h' tk a => ⟨h', tk, rfl, rfl, a⟩)) ?_ fun e s' h => h.2
  rintro r s' ⟨hz, h', tk, rfl, rfl, a⟩
  exact h h' tk a hz

noncomputable def Tg.idx : Tg → List Nat
  | .one i => [i]
  | .two i j => [i, j]
theorem up_erase (t : Tg) (ls : Ls) (v : V) : t.up v (ls.erase t.idx) = t.up v ls := by
  funext k
  cases t <;> simp only [Tg.up, Tg.idx, Ls.set, Ls.erase, List.mem_cons, List.not_mem_nil, or_false]
  · split <;> rfl
  · rename_i i j
    by_cases q : k = j
    · simp [q]
    · by_cases r : k = i <;> simp [q, r]
theorem up_up (t : Tg) (ls : Ls) (v w : V) : t.up v (t.up w ls) = t.up v ls := by
  funext k
  cases t <;> simp only [Tg.up, Ls.set]
  · split <;> rfl
  · split
    · rfl
    · split <;> rfl
/-- the tests of a comprehension -/
noncomputable def testsT (ifs : List Expr) (env : Env) : Sem Bool := forIn ifs true fun c r => if r = true then do let ok ← isTrue c env (eval c env); pure (ForInStep.yield ok) else pure (ForInStep.yield r)

theorem compLoop_gen {prog : Program} {w : World} {A : Around} {R : Result → Shared → Prop} {s : Shared} {elt target iter : Expr} {ifs : List Expr} {scope : Scope} {pos : Pos} {it acc : Value} {env : Env} (I : Nat → Shared → Prop)
    (turn : ∀ n s, I n s → wpAny (model prog w) A (pyNext it) (fun r s₁ => match r with
      | none => R (.ok .next) s₁
      | some v => wpAny (model prog w) A (letOwnedTupleGo target it v) (fun _ s₁ => wpAny (model prog w) A (assign target env v) (fun _ s₂ => wpAny (model prog w) A (testsT ifs env) (fun ok s₃ =>
            if ok = true then wpAny (model prog w) A (eval elt env) (fun x s₄ => wpAny (model prog w) A (call (.builtin "list.append") [acc, x]) (fun _ s₅ => ∃ m, m < n ∧ I m s₅) (fun _ _ => False) s₄) (fun _ _ => False) s₃
            else ∃ m, m < n ∧ I m s₃) (fun _ _ => False) s₂) (fun _ _ => False) s₁) (fun _ _ => False) s₁) (fun _ _ => False) s)
    (n : Nat) (h : I n s) : codeAny (model prog w) A (.compLoop (.ListComp elt [⟨target, iter, ifs, 0⟩] scope pos) 0 it acc env) R s := by
  refine codeAny_loop rfl I (fun n s hI => ?_) n h
  show wpAny _ A ((compTurn (.ListComp elt [⟨target, iter, ifs, 0⟩] scope pos) 0 it acc env).onRaise (fun x => do noteFrame x env; theTreesLotGoes x)) _ _ s
  refine wpAny_noted ?_
  rw [compTurn_list]
  refine wpAny_bind (wpAny_standAt (wpAny_bind (wpAny_mono (turn n s hI) (fun r s₁ h₁ => ?_) fun _ _ h' => h'.elim)))
  cases r with
  | none => exact wpAny_pure h₁
  | some v =>
    refine wpAny_bind (wpAny_mono h₁ (fun _ s₁ h₁ => wpAny_bind (wpAny_mono h₁ (fun _ s₂ h₂ => wpAny_bind (wpAny_mono h₂ (fun ok s₃ h₃ => ?_) fun _ _ h' => h'.elim)) fun _ _ h' => h'.elim)) fun _ _ h' => h'.elim)
    cases ok with
    | false => exact wpAny_pure ⟨rfl, h₃⟩
    | true => exact wpAny_bind (wpAny_bind (wpAny_mono h₃ (fun x s₄ h₄ => wpAny_bind (wpAny_mono h₄ (fun _ s₅ h₅ => wpAny_pure (wpAny_pure ⟨rfl, h₅⟩)) fun _ _ h' => h'.elim)) fun _ _ h' => h'.elim))

/-- where the loop stands: k items are done -/
inductive CInv (C' : Cx) (own : Addr → Prop) (h₁ : Heap) (σ₀ : View) (ls : Ls) (t : Tg) (z : Nat) (St : Nat → Heap → Prop) (J : Nat → List V → View → Prop) (a : Addr) : Nat → Shared → Prop
  | mk {s' : Shared} (k : Nat) (acc : List V) (σ₂ : View) (vs : Array Value) (n : Nat) (ls' : Ls) : k ≤ z → J k acc σ₂ → Good C' σ₂ ls' s' → (∀ v, t.up v ls' = t.up v ls) → Step own h₁ σ₀ s'.heap σ₂ → St k s'.heap →
    s'.heap.get? a = some (listObj vs n) → vs.size ≤ k → Reals s'.heap (C'.D σ₂) vs.toList acc → CInv C' own h₁ σ₀ ls t z St J a (z + 1 - k) s'
theorem comp_loop {tgt : Expr} {t : Tg} (R : Rm C) (hS : S.Of C) (G₁ : Good C σ₁ ls s₁) {us xs : List V} {it : Addr} {wr fp : List Addr} {P : Nat → Nat → Heap → Value → Prop} {St : Nat → Heap → Prop} {h₂ : Heap} {tk : Nat}
    (I : It C s₁ (lockV σ₁ us) tgt (rpOf t) it wr xs fp P St) (st : St 0 h₂) (k₂ : ∀ b o, s₁.heap.get? b = some o → h₂.get? b = some o) (hz₂ : s₁.heap.objs.size ≤ h₂.objs.size) (hbig : xs.length ≤ big)
    {scope : Scope} {ys : List Str} {pos : Pos} {iter elt : Expr} {ifs : List Expr} {cl : List (Str × Addr)} (hc : compOk S scope ys = true) (hy : ∀ z ∈ ys, ∃ i ∈ t.idx, S.vars[i]? = some z) (hcl : closOf C.env.cells scope.names [] = some cl) (hA : ∀ L a, Asg (C.comp scope cl L a wr) tgt (rpOf t) t.up)
    (J : Nat → List V → View → Prop) (hJ : J 0 [] (lockV σ₁ us)) {RR : Value → Addr → Result → Shared → Prop}
    (turn : ∀ L a k v acc σ₂ s₂, Good (C.comp scope cl L a wr) σ₂ (t.up v ls) s₂ → xs[k]? = some v → J k acc σ₂ →
      TrE (C.comp scope cl L a wr) (t.up v ls) (testsT ifs (C.comp scope cl L a wr).env) (fun ok σ₃ s₃ => if ok = true then TrE (C.comp scope cl L a wr) (t.up v ls) (eval elt (C.comp scope cl L a wr).env) (RV (C.comp scope cl L a wr) fun d σ₄ => J (k + 1) (acc ++ [d]) σ₄) σ₃ s₃ else J (k + 1) acc σ₃) σ₂ s₂)
    (hRR : ∀ L a vs n acc σ₂ s₃ h₄ tk, s₁.heap.objs.size ≤ L → s₁.heap.objs.size ≤ a → (∀ b ∈ wr, s₁.heap.objs.size ≤ b ∧ b ≠ a ∧ b ≠ L) → a ≠ L → Ground (C.comp scope cl L a wr) σ₂ s₃ → Step (fun b => b = L ∨ b = a ∨ b ∈ wr) s₁.heap (lockV σ₁ us) s₃.heap σ₂ →
      s₃.heap.get? a = some (listObj vs n) → vs.size ≤ 2 ^ 24 → Reals s₃.heap ((C.comp scope cl L a wr).D σ₂) vs.toList acc → (∃ m, s₃.heap.Ns L m) → (∀ b o, b ∉ wr → s₃.heap.get? b = some o → h₄.get? b = some o) → s₃.heap.objs.size ≤ h₄.objs.size →
      J xs.length acc σ₂ → RR (.ref a) L (.ok .next) { s₃ with heap := h₄, toks := tk }) :
    wpAny (model C.W.prog C.W.w) C.A (newList []) (fun acc s₃ => wpAny (model C.W.prog C.W.w) C.A (newFunctionEnv scope C.env.globals cl [] C.env.qual none .none (some C.env)) (fun cenv s₄ =>
      codeAny (model C.W.prog C.W.w) C.A (.compStart (.ListComp elt [⟨tgt, iter, ifs, 0⟩] scope pos) 0 (.ref it) acc { cenv with scope := relabel scope C.env }) (RR acc cenv.locals) s₄) (fun _ _ => False) s₃) (fun _ _ => False) { s₁ with heap := h₂, toks := tk } := by
  obtain ⟨hk, hyl, hn⟩ := compOk_parts hc
  refine wpAny_newObj_type (wpAny_newFunctionEnv (fun x hx => (hn x.1 x.2 hx).1) (by intro y hy; simp at hy) (fun h₄ hns hsb => ?_) hk)
  dsimp only at hns hsb ⊢
  generalize hH3 : h₂.push { cls := .type "list", dict := none, data := .seq ([] : List Value).toArray } = h₃ at hns hsb ⊢
  have hsz3 : h₃.objs.size = h₂.objs.size + 1 := by rw [← hH3, Heap.size_push]
  have hsz4 : h₄.objs.size = h₃.objs.size + 1 := by rw [hsb.1, Heap.size_push]
  have k₄ : ∀ b o, h₂.get? b = some o → h₄.get? b = some o := fun b o e => hsb.extBut b o (Nat.ne_of_lt (by rw [hsz3]; exact Nat.lt_succ_of_lt (Heap.lt_size e))) (Heap.get?_push_of_some _ (hH3 ▸ Heap.get?_push_of_some _ e))
  have hacc : h₄.get? h₂.objs.size = some (listObj #[] 0) := hsb.extBut _ _ (by rw [hsz3]; exact Nat.ne_of_lt (Nat.lt_succ_self _)) (Heap.get?_push_of_some _ (hH3 ▸ Heap.get?_push_size _ rfl))
  have st₄ : St 0 h₄ := I.frame _ _ _ st fun b _ o e => k₄ b o e
  have wrlt : ∀ b ∈ wr, b < h₂.objs.size := fun b hb => by obtain ⟨o, e⟩ := I.alive 0 h₂ st b hb; exact Heap.lt_size e
  have hLa : h₂.objs.size ≠ h₃.objs.size := by rw [hsz3]; exact Nat.ne_of_lt (Nat.lt_succ_self _)
  have cenvEq : ({ (newEnv scope h₃.objs.size C.env.globals cl C.env.qual none .none (some C.env) builtinsNs) with scope := relabel scope C.env } : Env) = compEnvC scope cl h₃.objs.size C.env := rfl
  generalize hC' : C.comp scope cl h₃.objs.size h₂.objs.size wr = C'
  have eW : C'.W = C.W := by rw [← hC']; rfl
  have eA : C'.A = C.A := by rw [← hC']; rfl
  have eEnv : C'.env = compEnvC scope cl h₃.objs.size C.env := by rw [← hC']; rfl
  have eV : C'.vars = C.vars := by rw [← hC']; rfl
  have own' : ∀ a, C'.own a ↔ a = h₃.objs.size := fun a => by rw [← hC']; exact Iff.rfl
  have B' : ∀ a, C'.B a ↔ (C.own a ∨ C.B a) ∨ a = h₂.objs.size ∨ a ∈ wr := fun a => by rw [← hC']; exact Iff.rfl
  have newO : ∀ a, a = h₃.objs.size ∨ a = h₂.objs.size ∨ a ∈ wr → s₁.heap.objs.size ≤ a ∧ ∃ o, h₄.get? a = some o := fun a ha => by
    rcases ha with rfl | rfl | h
    · obtain ⟨o, _, _, e, _⟩ := hns
      exact ⟨by rw [hsz3]; exact Nat.le_succ_of_le hz₂, o, e⟩
    · exact ⟨hz₂, _, hacc⟩
    · obtain ⟨o, e⟩ := I.alive 0 h₄ st₄ a h
      exact ⟨I.new a h, o, e⟩
  have hN : ∀ a, C'.own a ∨ C'.B a → (C.own a ∨ C.B a) ∨ (s₁.heap.objs.size ≤ a ∧ ∃ o, h₄.get? a = some o) := fun a ha => by
    rcases ha with h | h
    · exact .inr (newO a (.inl ((own' a).mp h)))
    · rcases (B' a).mp h with h | h
      · exact .inl h
      · exact .inr (newO a (.inr h))
  have GL : Good C (lockV σ₁ us) ls s₁ := G₁.lock us
  have kk : ∀ b o, s₁.heap.get? b = some o → h₄.get? b = some o := fun b o e => k₄ b o (k₂ b o e)
  have hzz : s₁.heap.objs.size ≤ h₄.objs.size := by rw [hsz4, hsz3]; exact Nat.le_succ_of_le (Nat.le_succ_of_le hz₂)
  have S₄ : Step (fun b => b = h₃.objs.size ∨ b = h₂.objs.size ∨ b ∈ wr) s₁.heap (lockV σ₁ us) h₄ (lockV σ₁ us) := ⟨fun b o e _ _ => kk b o e, hzz, fun _ h1 h2 => absurd h2 h1, fun _ _ _ e _ => .inl e⟩
  have G₄ : Good C' (lockV σ₁ us) (ls.erase t.idx) { s₁ with heap := h₄, toks := tk } := by
    refine ⟨GL.toGround.enter eW kk hzz hN fun a ha hb => ?_, ?_⟩
    · have := (own' a).mp ha
      subst this
      rcases (B' _).mp hb with h | h | h
      · exact absurd (GL.toGround.lt (.inr h)) (Nat.not_lt.mpr (by rw [hsz3]; exact Nat.le_succ_of_le hz₂))
      · exact hLa h.symm
      · exact absurd (wrlt _ h) (Nat.not_lt.mpr (by rw [hsz3]; exact Nat.le_succ _))
    · refine hC' ▸ ?_
      exact comp_fr hS GL hc hcl kk ((hsz3 ▸ (Nat.le_succ_of_le hz₂))) ⟨_, hns⟩ hy fun a ha => (hN a ((hC' ▸ ha))).imp id (·.1)
  have leavesB : ∀ {σ' : View} {h' : Heap}, Step (fun b => b = h₃.objs.size ∨ b = h₂.objs.size ∨ b ∈ wr) s₁.heap (lockV σ₁ us) h' σ' → Leaves s₁.heap (C.D (lockV σ₁ us)) h' (C'.D σ') := fun S' b o e hd => by
    have hlt := Heap.lt_size e
    have hn : lockV σ₁ us b = none := by
      cases q : lockV σ₁ us b with
      | none => rfl
      | some c => exact absurd (.inl (not_some q)) hd
    have hnew : ¬ (b = h₃.objs.size ∨ b = h₂.objs.size ∨ b ∈ wr) := fun h => absurd hlt (Nat.not_lt.mpr (newO b h).1)
    refine ⟨S'.keep b o e (Rw.of_none hn) hnew, ?_⟩
    rintro (h | h)
    · exact h (S'.none hlt hn)
    · rcases hN b h with h | h
      · exact hd (.inr h)
      · exact absurd hlt (Nat.not_lt.mpr h.1)
  have loop : ∀ s₅ : Shared, s₅ = { s₁ with heap := h₄, toks := tk } →
      codeAny (model C.W.prog C.W.w) C.A (.compLoop (.ListComp elt [⟨tgt, iter, ifs, 0⟩] scope pos) 0 (.ref it) (.ref h₂.objs.size) (compEnvC scope cl h₃.objs.size C.env)) (RR (.ref h₂.objs.size) h₃.objs.size) s₅ := by
    rintro s₅ rfl
    refine compLoop_gen
      (CInv C' (fun b => b = h₃.objs.size ∨ b = h₂.objs.size ∨ b ∈ wr) s₁.heap (lockV σ₁ us) ls t xs.length St J h₂.objs.size) ?_ (xs.length + 1)
      (.mk 0 [] _ #[] 0 _ (Nat.zero_le _) hJ G₄ (fun v => up_erase t ls v) S₄ st₄ hacc (Nat.le_refl _) .nil)
    rintro m s' ⟨k, acc, σ₂, vs, n, ls', hkl, hJk, G', hset, S', st', hav, hvz, rs⟩
    have wrB : ∀ b ∈ wr, C'.own b ∨ C'.B b := fun b hb => .inr ((B' b).mpr (.inr (.inr hb)))
    have cellsOld : ∀ x c, C'.env.cells.lookup x = some c → c < s₁.heap.objs.size := fun x c e => by
      have := closOf_mem C.env.cells scope.names [] cl hcl (by intro n c e; exact nn e) x c (by rw [eEnv] at e; exact e)
      obtain ⟨_, _, v, o, hq1⟩ := G₁.fr.cells x c this
      exact Heap.lt_size hq1.1
    have hLw : C'.env.locals ∉ wr := by
      rw [eEnv]; intro h
      exact absurd (wrlt _ h) (Nat.not_lt.mpr (hsz3 ▸ Nat.le_succ _))
    have aB : C'.own h₂.objs.size ∨ C'.B h₂.objs.size := .inr ((B' _).mpr (.inr (.inl rfl)))
    have aL : C'.env.locals ≠ h₂.objs.size := by rw [eEnv]; exact Ne.symm hLa
    by_cases hlt : k < xs.length
    · have hdec : xs.length + 1 - (k + 1) < xs.length + 1 - k := Nat.sub_lt_sub_left (Nat.lt_succ_of_lt hlt) (Nat.lt_succ_self k)
      refine I.item' hlt st' (fun v s₂ h => h) fun v h' tk' hP st'' hk' hz' => ?_
      have awr : h₂.objs.size ∉ wr := fun h => Nat.lt_irrefl _ (wrlt _ h)
      obtain ⟨G₅, S₅, L₅⟩ := G'.quietW (tk := tk') wrB hLw (fun x c e h => absurd (cellsOld x c e) (Nat.not_lt.mpr (I.new c h))) hz' hk' (I.alive _ _ st'')
      have S₅ := S₅ (fun b => b = h₃.objs.size ∨ b = h₂.objs.size ∨ b ∈ wr) fun b hb => .inr (.inr hb)
      have Lb := leavesB (S'.trans S₅)
      obtain ⟨xv, hq0⟩ := I.val k v s'.heap.objs.size h' (C'.D σ₂) hlt Lb (fun a ha => G'.toGround.lt ha) hP
      have rs₅ : Reals h' (C'.D σ₂) vs.toList acc := rs.leaves L₅
      have hav₅ : h'.get? h₂.objs.size = some (listObj vs n) := hk' _ _ awr hav
      have wk : ∀ a, C'.own a → a = h₃.objs.size ∨ a = h₂.objs.size ∨ a ∈ wr := fun a ha => .inl ((own' a).mp ha)
      have keepB : ∀ {hA hB : Heap} {σA σB : View} {sA : Shared} {lA : Ls}, sA.heap = hA → Good C' σA lA sA → Step C'.own hA σA hB σB → ∀ b, C'.B b → ∀ o, hA.get? b = some o → hB.get? b = some o := by
        rintro hA hB σA σB sA lA rfl GA SA b hb o e
        exact SA.keep b o e (Rw.of_none (GA.apart b (.inr hb))) fun h => GA.apart2 b h hb
      have stKeep : ∀ {hA hB : Heap} {σA σB : View} {sA : Shared} {lA : Ls}, sA.heap = hA → Good C' σA lA sA → Step C'.own hA σA hB σB → Step (fun b => b = h₃.objs.size ∨ b = h₂.objs.size ∨ b ∈ wr) s₁.heap (lockV σ₁ us) hA σA → St (k + 1) hA → St (k + 1) hB := by
        intro hA hB σA σB sA lA eA GA SA SA₀ stA
        refine I.frame _ _ _ stA fun b hb o e => ?_
        rcases I.fps b hb with h | ⟨h1, h2, h3⟩
        · exact keepB eA GA SA b ((B' b).mpr (.inr (.inr h))) o e
        · refine SA.keep b o e (SA₀.notRw h1 h2) fun h => ?_
          exact absurd h1 (Nat.not_lt.mpr (newO b (.inl ((own' b).mp h))).1)
      have goal : ∀ s₆, Good C' σ₂ (t.up xv ls) s₆ → Step C'.own h' σ₂ s₆.heap σ₂ → wpAny (model C.W.prog C.W.w) C.A (testsT ifs C'.env) (fun ok s₃ =>
            if ok = true then wpAny (model C.W.prog C.W.w) C.A (eval elt C'.env) (fun x s₄ =>
              wpAny (model C.W.prog C.W.w) C.A (call (.builtin "list.append") [.ref h₂.objs.size, x]) (fun _ s₅ => ∃ m, m < xs.length + 1 - k ∧ CInv C' (fun b => b = h₃.objs.size ∨ b = h₂.objs.size ∨ b ∈ wr) s₁.heap (lockV σ₁ us) ls t xs.length St J h₂.objs.size m s₅) (fun _ _ => False) s₄) (fun _ _ => False) s₃
            else ∃ m, m < xs.length + 1 - k ∧ CInv C' (fun b => b = h₃.objs.size ∨ b = h₂.objs.size ∨ b ∈ wr) s₁.heap (lockV σ₁ us) ls t xs.length St J h₂.objs.size m s₃) (fun _ _ => False) s₆ := by
        intro s₆ G₆ S₆
        have hset2 : ∀ v, t.up v (t.up xv ls) = t.up v ls := fun v => up_up t ls v xv
        have S06 := (S'.trans S₅).trans (S₆.weaken wk)
        have hav₆ := keepB rfl G₅ S₆ _ ((B' _).mpr (.inr (.inl rfl))) _ hav₅
        have st₆ := stKeep rfl G₅ S₆ (S'.trans S₅) st''
        have rs₆ := rs₅.step G₅ S₆
        have ht := turn h₃.objs.size h₂.objs.size k xv acc σ₂ s₆
        rw [hC'] at ht
        have ht' : wpAny (model C'.W.prog C'.W.w) C'.A _ _ _ s₆ := ht G₆ hq0.1 hJk
        rw [eW, eA] at ht'
        refine wpAny_mono ht' ?_ fun _ _ x => x
        rintro ok s₇ ⟨σ₇, G₇, S₇, h₇⟩
        have hav₇ := keepB rfl G₆ S₇ _ ((B' _).mpr (.inr (.inl rfl))) _ hav₆
        have st₇ := stKeep rfl G₆ S₇ S06 st₆
        have S07 := S06.trans (S₇.weaken wk)
        have rs₇ := rs₆.step G₆ S₇
        cases ok with
        | false =>
          skip
          exact ⟨_, hdec, .mk (k + 1) acc σ₇ vs n _ hlt h₇ G₇ hset2 S07 st₇ hav₇ (Nat.le_succ_of_le hvz) rs₇⟩
        | true =>
          skip
          have h₇' := h₇
          unfold TrE at h₇'
          rw [eW, eA] at h₇'
          refine wpAny_mono h₇' ?_ fun _ _ x => x
          rintro w s₈ ⟨σ₈, G₈, S₈, d, rd, hJd⟩
          have hav₈ := keepB rfl G₇ S₈ _ ((B' _).mpr (.inr (.inl rfl))) _ hav₇
          have st₈ := stKeep rfl G₇ S₈ S07 st₇
          have S08 := S07.trans (S₈.weaken wk)
          have rs₈ := rs₇.step G₇ S₈
          have hzv : vs.size ≤ 2 ^ 24 := Nat.le_trans hvz (Nat.le_trans (Nat.le_of_lt hlt) hbig)
          have hsb : Heap.SameBut h₂.objs.size s₈.heap (s₈.heap.update h₂.objs.size (Obj.mapSeq fun x => x.push w)) := Heap.SameBut.update ..
          have hnew : (s₈.heap.update h₂.objs.size (Obj.mapSeq fun x => x.push w)).get? h₂.objs.size = some (listObj (vs.push w) (if (vs.push w).size == vs.size then n else n + 1)) := Heap.get?_update_self _ hav₈ rfl
          obtain ⟨G₉, S₉, L₉⟩ := G₈.quietW (wr := [h₂.objs.size]) (tk := s₈.toks) (h' := s₈.heap.update h₂.objs.size (Obj.mapSeq fun x => x.push w)) (fun b hb => by simp at hb; subst hb; exact aB) (by simp; exact aL)
            (fun x c e h => by replace h := List.mem_singleton.mp h; exact absurd (cellsOld x c e) (Nat.not_lt.mpr ((h ▸ hz₂)))) (Nat.le_of_eq hsb.1.symm) (fun b o hb e => hsb.extBut b o (by simpa using hb) e) (fun b hb => by simp at hb; subst hb; exact ⟨_, hnew⟩)
          have S₉ := S₉ (fun b => b = h₃.objs.size ∨ b = h₂.objs.size ∨ b ∈ wr) fun b hb => by replace hb := List.mem_singleton.mp hb; exact .inr (.inl hb)
          refine call_meets F.slot_list_append ⟨_, hav₈, rfl⟩ F.entry_list_append (F.args_list_append_2 _ _) (PySem.list_append h₂.objs.size vs n w (sz hzv)) ⟨hav₈, ?_⟩
          refine ⟨_, hdec, .mk (k + 1) (acc ++ [d]) σ₈ (vs.push w) _ _ hlt hJd G₉ hset2 (S08.trans S₉) ?_ hnew (by rw [Array.size_push]; exact Nat.succ_le_succ hvz) ?_⟩
          · refine I.frame _ _ _ st₈ fun b hb o e => hsb.extBut b o (fun q => ?_) e
            subst q
            rcases I.fps _ hb with h | ⟨h1, _⟩
            · exact awr h
            · exact absurd h1 (Nat.not_lt.mpr hz₂)
          · simp only [Array.toList_push]
            exact (rs₈.leaves L₉).append (.cons (rd.leaves L₉) .nil)
      have hstore := hA h₃.objs.size h₂.objs.size
      replace hstore := hC' ▸ hstore
      have hstore := hstore σ₂ ls' _ v xv G₅ hq0.2
      rw [eW, eA, hset] at hstore
      refine eEnv ▸ ?_
      exact wpAny_mono hstore (fun _ s₆ g => goal s₆ g.1 g.2) fun _ _ x => x
    · have hk0 : k = xs.length := Nat.le_antisymm hkl (Nat.not_lt.mp hlt)
      subst hk0
      refine I.done' st' fun h' tk' hk' hz' => ?_
      have hR := hRR h₃.objs.size h₂.objs.size vs n acc σ₂ s' h' tk' ((hsz3 ▸ (Nat.le_succ_of_le hz₂))) hz₂ (fun b hb => ⟨I.new b hb, Nat.ne_of_lt (wrlt b hb), Nat.ne_of_lt ((hsz3 ▸ (Nat.lt_succ_of_lt (wrlt b hb))))⟩) hLa
      rw [hC'] at hR
      refine hR G'.toGround S' hav (Nat.le_trans hvz hbig) rs ?_ hk' hz' hJk
      have := G'.fr.ns
      replace this := eEnv ▸ this
      exact this
  exact codeAny_compStart_list (loop _ rfl) (I.self 0 _ _ _ st₄ (loop _ rfl))
end
end Mine
end

section

open PySem PyProof.Rows
namespace Mine
section
variable {C C₁ C₂ : Cx} {S : Sc} {ls : Ls} {σ σ₁ τ τ₂ : View} {s s₁ : Shared}

theorem Good.reB (hW : C₂.W = C₁.W) (henv : C₂.env = C₁.env) (hv : C₂.vars = C₁.vars) (hown : C₂.own = C₁.own) (G : Good C₁ τ ls s) (hD : ∀ b, C₂.D τ₂ b → C₁.D τ b) (hap : ∀ a, C₂.own a ∨ C₂.B a → τ₂ a = none) (hap2 : ∀ a, C₂.own a → ¬ C₂.B a)
    (hc : ∀ x c, C₂.env.cells.lookup x = some c → C₂.own c ∨ C₂.B c) (sim : Leaves s.heap (C₁.D τ) s.heap (C₂.D τ₂) → ∀ a c, τ₂ a = some c → CellAt s.heap (C₂.D τ₂) a c) : Good C₂ τ₂ ls s := by
  have L : Leaves s.heap (C₁.D τ) s.heap (C₂.D τ₂) := fun b o e hd => ⟨e, fun h => hd (hD b h)⟩
  have F := G.fr
  refine ⟨⟨(hW ▸ G.stays), (hW ▸ G.same), fun a h => (hW ▸ (G.fresh a (hD a h))), (hW ▸ G.larger), sim L, hap, hap2, fun a h => G.toGround.there (hD a (.inr h))⟩,
    ⟨(henv ▸ F.kind), (henv ▸ F.glob), (henv ▸ F.blt), (henv ▸ F.ns), (hown ▸ henv ▸ F.ownL), fun x c e => ⟨hc x c e, by rw [henv] at e ⊢; exact (F.cells x c e).2⟩, (henv ▸ F.inj), fun i x d e1 e2 e3 => ?_, by rw [hv]; exact F.nodup, (henv ▸ F.has)⟩⟩
  rw [henv] at e2 ⊢
  rw [hv] at e1
  refine Exists.elim (F.val i x d e1 e2 e3) ?_; rintro v hq0
  exact ⟨v, hq0.1, hq0.2.leaves L⟩

/-- an object that was kept apart is read as it is -/
theorem Good.release {a : Addr} {X : List Addr} (G₁ : Good C σ₁ ls s₁) {ls' : Ls} (G : Good (C.more (a :: X)) τ ls' s) : Good (C.more X) τ ls' s ∧ Leaves s.heap ((C.more (a :: X)).D τ) s.heap ((C.more X).D τ) := by
  have hD : ∀ b, (C.more X).D τ b → (C.more (a :: X)).D τ b := fun b h => (D_more b).mpr (((D_more b).mp h).imp id (List.mem_cons_of_mem _))
  refine ⟨Good.reB (C₁ := C.more (a :: X)) rfl rfl rfl rfl G hD (fun b h => G.apart b (h.imp id fun h => h.imp id (List.mem_cons_of_mem _))) (fun b h hb => G.apart2 b h (hb.imp id (List.mem_cons_of_mem _)))
    (fun x c e => (G₁.fr.cells x c e).1.imp id .inl) fun L b c e => (G.sim b c e).leaves L fun _ e => e, fun b o e hd => ⟨e, fun h => hd (hD b h)⟩⟩
/-- or becomes the view's -/
theorem Good.adopt {a : Addr} {X : List Addr} {c : Cell} (G₁ : Good C σ₁ ls s₁) {ls' : Ls} (G : Good (C.more (a :: X)) τ ls' s) (ha : s₁.heap.objs.size ≤ a) (haX : a ∉ X)
    (hc : ∀ D', Leaves s.heap ((C.more (a :: X)).D τ) s.heap D' → CellAt s.heap D' a c) : Good (C.more X) (τ.upd a c) ls' s := by
  have hD : ∀ b, (C.more X).D (τ.upd a c) b → (C.more (a :: X)).D τ b := fun b h => by
    rcases (D_more b).mp h with (h | h) | h
    · by_cases q : b = a
      · subst q; exact (D_more b).mpr (.inr (.head _))
      · rw [upd_ne q] at h; exact (D_more b).mpr (.inl (.inl h))
    · exact (D_more b).mpr (.inl (.inr h))
    · exact (D_more b).mpr (.inr (.tail _ h))
  have hne : ∀ b, C.own b ∨ C.B b → b ≠ a := fun b h => Nat.ne_of_lt (Nat.lt_of_lt_of_le (G₁.toGround.lt (.inr h)) ha)
  refine Good.reB (C₁ := C.more (a :: X)) rfl rfl rfl rfl G hD (fun b h => ?_) (fun b h hb => G.apart2 b h (hb.imp id (List.mem_cons_of_mem _))) (fun x c e => (G₁.fr.cells x c e).1.imp id .inl) fun L b d e => ?_
  · have : b ≠ a := by
      rcases h with h | h | h
      · exact hne b (.inl h)
      · exact hne b (.inr h)
      · rintro rfl; exact haX h
    refine (upd_ne this) ▸ ?_
    exact G.apart b (h.imp id fun h => h.imp id (List.mem_cons_of_mem _))
  · by_cases q : b = a
    · cases q; rw [upd_self] at e; cases e; exact hc _ L
    · rw [upd_ne q] at e; exact (G.sim b d e).leaves L fun _ e => e

theorem unlockV_cases (σ₁ σ₂ : View) (us : List V) : unlockV σ₁ us σ₂ = σ₂ ∨ ∃ a c c', us = [.ref a] ∧ σ₁ a = some c ∧ σ₂ a = some c' ∧ unlockV σ₁ us σ₂ = σ₂.upd a c := by
  unfold unlockV
  split
  · split
    · rename_i e1 e2; exact .inr ⟨_, _, _, rfl, e1, e2, rfl⟩
    · rename_i e1 e2; exact .inr ⟨_, _, _, rfl, e1, e2, rfl⟩
    · exact .inl rfl
  · exact .inl rfl
/-- the end of a comprehension: its list -/
theorem comp_end (G₁ : Good C σ₁ ls s₁) {us acc : List V} {scope : Scope} {cl : List (Str × Addr)} {L a : Addr} {wr : List Addr} {vs : Array Value} {n : Nat} {σ₂ : View} {s₃ : Shared} {h₄ : Heap} {tk : Nat} (hL : s₁.heap.objs.size ≤ L) (ha : s₁.heap.objs.size ≤ a)
    (hw : ∀ b ∈ wr, s₁.heap.objs.size ≤ b ∧ b ≠ a ∧ b ≠ L) (haL : a ≠ L) (G : Ground (C.comp scope cl L a wr) σ₂ s₃) (S : Step (fun b => b = L ∨ b = a ∨ b ∈ wr) s₁.heap (lockV σ₁ us) s₃.heap σ₂) (hav : s₃.heap.get? a = some (listObj vs n)) (hvz : vs.size ≤ 2 ^ 24)
    (rs : Reals s₃.heap ((C.comp scope cl L a wr).D σ₂) vs.toList acc) (hns : ∃ m, s₃.heap.Ns L m) (k : ∀ b o, b ∉ wr → s₃.heap.get? b = some o → h₄.get? b = some o) (hz : s₃.heap.objs.size ≤ h₄.objs.size) :
    (Good (C.more [L]) (unlockV σ₁ us σ₂) ls { s₃ with heap := h₄, toks := tk } ∧ Step C.own s₁.heap σ₁ h₄ (unlockV σ₁ us σ₂) ∧ Real h₄ ((C.more [L]).D (unlockV σ₁ us σ₂)) (.ref a) (.lst acc)) ∧
    (Good (C.more [L]) ((unlockV σ₁ us σ₂).upd a (.list false acc)) ls { s₃ with heap := h₄, toks := tk } ∧ Step C.own s₁.heap σ₁ h₄ ((unlockV σ₁ us σ₂).upd a (.list false acc)) ∧ unlockV σ₁ us σ₂ a = none) ∧ ∃ m, h₄.Ns L m := by
  have hLw : L ∉ wr := fun h => (hw L h).2.2 rfl
  have haw : a ∉ wr := fun h => (hw a h).2.1 rfl
  have hns4 : ∃ m, h₄.Ns L m := by refine Exists.elim hns ?_; rintro m hm; exact ⟨m, hm.at' fun o e => k L o hLw e⟩
  have hav4 := k a _ haw hav
  have oL : ∃ o, h₄.get? L = some o := by refine Exists.elim hns4 fun m hx => ?_; obtain ⟨o, _, _, hq2⟩ := hx; exact ⟨o, hq2.1⟩
  have σnone : ∀ b, (b = L ∨ b = a ∨ b ∈ wr) → σ₂ b = none := fun b h => by
    rcases h with rfl | h
    · exact G.apart b (.inl rfl)
    · exact G.apart b (.inr (.inr h))
  obtain ⟨G₄, S₄, L₄⟩ := (G₁.lock us).leaveX (X := [a, L]) (τ := σ₂) (h₄ := h₄) (tk := tk) (N := fun b => b = L ∨ b = a ∨ b ∈ wr) (C' := C.comp scope cl L a wr) rfl (fun b h => .inl h)
    (fun b h => by
      rcases h with rfl | rfl | h
      · exact ⟨hL, .inl rfl⟩
      · exact ⟨ha, .inr (.inr (.inl rfl))⟩
      · exact ⟨(hw b h).1, .inr (.inr (.inr h))⟩) G S (fun b o hb e => k b o (fun h => hb (.inr (.inr h))) e) hz (fun b h => .inl h) (fun b c h => h)
    (fun b hb => by
      simp at hb
      rcases hb with rfl | rfl
      · exact ⟨.inr (.inl rfl), ⟨_, hav4⟩, σnone _ (.inr (.inl rfl))⟩
      · exact ⟨.inl rfl, oL, σnone _ (.inl rfl)⟩)
    (fun _ b c e hb => by rw [σnone b hb] at e; exact nn e)
  have hq1 := unlock (us := us) (s₁ := s₁) (fun b hb => G₁.toGround.lt (.inl hb)) G₄ S₄
  have rs4 : Reals h₄ ((C.more [a, L]).D (unlockV σ₁ us σ₂)) vs.toList acc := by
    have := rs.leaves L₄
    have e : (C.more [a, L]).D (unlockV σ₁ us σ₂) = (C.more [a, L]).D σ₂ := by
      funext b
      unfold Cx.D
      have : unlockV σ₁ us σ₂ b ≠ none ↔ σ₂ b ≠ none := by
        rcases unlockV_cases σ₁ σ₂ us with e | ⟨a', c, c', _, _, e2, e⟩
        · rw [e]
        · refine e ▸ ?_
          by_cases q : b = a'
          · subst q; simp [e2]
          · rw [upd_ne q]
      simp only [this]
    exact e ▸ this
  have una : unlockV σ₁ us σ₂ a = none := hq1.1.apart a (.inr (.inr (.head _)))
  refine ⟨?_, ?_, hns4⟩
  · have hq0 := Good.release G₁ hq1.1
    refine ⟨hq0.1, hq1.2, .lst hav4 hvz (fun hd => ?_) (rs4.leaves hq0.2)⟩
    rcases (D_more a).mp hd with (h | h) | h
    · exact h una
    · exact absurd (G₁.toGround.lt (.inr h)) (Nat.not_lt.mpr ha)
    · replace h := List.mem_singleton.mp h; exact haL h
  · refine ⟨Good.adopt G₁ hq1.1 ha (by simpa using haL) fun D' L' => ⟨vs, n, hav4, hvz, rs4.leaves L'⟩, ?_, una⟩
    refine ⟨hq1.2.keep, hq1.2.size, fun b h1 h2 => ?_, fun b c hb e hr => ?_⟩
    · by_cases q : b = a
      · exact q ▸ ha
      · rw [upd_ne q] at h1; exact hq1.2.grow b h1 h2
    · have : b ≠ a := Nat.ne_of_lt (Nat.lt_of_lt_of_le hb ha)
      exact (upd_ne this) ▸ (hq1.2.ro b c hb e hr)
end
end Mine
end

section

open PySem PyProof.Rows
namespace Mine

structure Pg where
  fns : List Str
  gcs : List Str

noncomputable def isLoc (S : Sc) (x : Str) : Bool := (match S.names.lookup x with | some .local => true | some .cell => true | some .free => true | _ => false) && !(x == ("__debug__" : Str)) && !(x == ("__classdict__" : Str))
noncomputable def litOk : V → Const → Bool
  | .none, .none => true
  | .bool a, .bool b => a == b
  | .int i, .int j => i == j
  | .str x, .str y => x == y && PyData.strOk x && decide (x.cps.size ≤ 1000)
  | _, _ => false
noncomputable def iterArgs (n : String) (S : Sc) : Expr → Option (List Expr)
  | .Call (.Name f _) args [] _ => if f = Str.ofString n ∧ glob S f = true ∧ noStar args = true ∧ args.isEmpty = false then some args else none
  | _ => none
noncomputable def nameOf : Expr → Option Str
  | .Name y _ => some y
  | _ => none
noncomputable def pairL : List Expr → Option (Expr × Expr)
  | [] => none
  | a :: r => match r with
    | [] => none
    | b :: t => match t with
      | [] => some (a, b)
      | _ :: _ => none
noncomputable def pairOf : Expr → Option (Expr × Expr)
  | .Tuple l _ _ => pairL l
  | _ => none
/-- a target and its names -/
noncomputable def agTg (S : Sc) (t : Tg) (e : Expr) : Option (List Str) := match t with
  | .one i => (nameOf e).bind fun y => if S.vars[i]? = some y then some [y] else none
  | .two i j => (pairOf e).bind fun p => (nameOf p.1).bind fun y => (nameOf p.2).bind fun z => if S.vars[i]? = some y ∧ S.vars[j]? = some z then some [y, z] else none
/-- enumerate goes to two names, all else to one -/
noncomputable def okI : Tg → MI → Bool
  | .two _ _, .enum _ => true
  | .two _ _, _ => false
  | .one _, .enum _ => false
  | .one _, _ => true

/-- asked as a test, its value is asked -/
noncomputable def tplain : Expr → Bool
  | .UnaryOp .Not _ _ => false
  | .BoolOp _ _ _ => false
  | .IfExp _ _ _ _ => false
  | .Compare _ [_] [r] _ => notSet r
  | .Compare _ _ _ _ => false
  | _ => true

noncomputable def two2 : List CmpOp → List Expr → Option (CmpOp × CmpOp × Expr × Expr)
  | [a, b], [c, d] => some (a, b, c, d)
  | _, _ => none
theorem two2_inv {ops : List CmpOp} {rs : List Expr} {q : CmpOp × CmpOp × Expr × Expr} (h : two2 ops rs = some q) : ops = [q.1, q.2.1] ∧ rs = [q.2.2.1, q.2.2.2] := by
  match ops, rs, h with
  | [a, b], [c, d], h => cases h; exact ⟨rfl, rfl⟩
mutual
noncomputable def agE (P : Pg) (S : Sc) : ME → Expr → Bool
  | .var i, e => match e with
    | .Name x _ => S.vars[i]? == some x && isLoc S x
    | _ => false
  | .lit d, e => match e with
    | .Constant c _ _ => litOk d c
    | _ => false
  | .gcon k, e => match e with
    | .Name x _ => P.gcs[k]? == some x && glob S x
    | _ => false
  | .op o args, e => match shp S o e with
    | some es => agEs P S args es
    | none => false
  | .meth o b args, e => match mshp o e with
    | some (b', es) => agE P S b b' && agEs P S args es
    | none => false
  | .dict _ ks vs, e => match e with
    | .Dict [] [] _ => ks.isEmpty && (match vs with | .nil => true | _ => false)
    | _ => false
  | .and es, e => match e with
    | .BoolOp .And vs _ => agEs P S es vs
    | _ => false
  | .or es, e => match e with
    | .BoolOp .Or vs _ => agEs P S es vs
    | _ => false
  | .not m, e => match e with
    | .UnaryOp .Not x _ => agE P S m x
    | _ => false
  | .cmp2 o1 o2 a b c, e => match e with
    | .Compare l ops rs _ => match two2 ops rs with
      | some (op1, op2, r1, r2) => decide (cmpTok o1 = some op1) && decide (cmpTok o2 = some op2) && notSet r2 && agE P S a l && agE P S b r1 && agE P S c r2
      | none => false
    | _ => false
  | .call f args, e => match e with
    | .Call (.Name g _) as [] _ => P.fns[f]? == some g && glob S g && noStar as && !as.isEmpty && agEs P S args as
    | _ => false
  | .comp _ elt x it ifs, e => match e with
    | .ListComp el [⟨tg, iter, fs, 0⟩] scope _ => (match agTg S x tg with | some ys => compOk S scope ys | none => false) && okI x it && notSet iter && agI P S it iter && agEs P (S.comp scope) ifs fs && agE P (S.comp scope) elt el
    | _ => false
  | .frz m, e => agE P S m e && tplain e
noncomputable def agEs (P : Pg) (S : Sc) : MEs → List Expr → Bool
  | .nil, es => es.isEmpty
  | .cons m ms, es => match es with
    | e :: r => agE P S m e && agEs P S ms r
    | [] => false
noncomputable def agI (P : Pg) (S : Sc) : MI → Expr → Bool
  | .seq m, e => agE P S m e
  | .range ms, e => match iterArgs "range" S e with
    | some es => agEs P S ms es
    | none => false
  | .enum ms, e => match iterArgs "enumerate" S e with
    | some es => agEs P S ms es
    | none => false
  | .rev ms, e => match iterArgs "reversed" S e with
    | some es => agEs P S ms es
    | none => false
end

section
variable {P : Pg} {S : Sc} {e : Expr}
theorem ag_var {i : Nat} (h : agE P S (.var i) e = true) : ∃ x p, e = .Name x p ∧ (S.vars[i]? == some x && isLoc S x) = true := by
  cases e <;> first | exact ⟨_, _, rfl, h⟩ | exact ff h
theorem ag_lit {d : V} (h : agE P S (.lit d) e = true) : ∃ c k p, e = .Constant c k p ∧ litOk d c = true := by
  cases e <;> first | exact ⟨_, _, _, rfl, h⟩ | exact ff h
theorem ag_gcon {k : Nat} (h : agE P S (.gcon k) e = true) : ∃ x p, e = .Name x p ∧ (P.gcs[k]? == some x && glob S x) = true := by
  cases e <;> first | exact ⟨_, _, rfl, h⟩ | exact ff h
theorem ag_op {o : Op} {args : MEs} (h : agE P S (.op o args) e = true) : ∃ es, shp S o e = some es ∧ agEs P S args es = true := by
  have h : (match shp S o e with | some es => agEs P S args es | none => false) = true := h
  cases hs : shp S o e with
  | none => replace h := hs ▸ h; exact (ff h)
  | some es => rw [hs] at h; exact ⟨es, rfl, h⟩
theorem ag_meth {o : Op} {b : ME} {args : MEs} (h : agE P S (.meth o b args) e = true) : ∃ b' es, mshp o e = some (b', es) ∧ (agE P S b b' && agEs P S args es) = true := by
  have h : (match mshp o e with | some (b', es) => agE P S b b' && agEs P S args es | none => false) = true := h
  cases hs : mshp o e with
  | none => replace h := hs ▸ h; exact (ff h)
  | some es => rw [hs] at h; exact ⟨es.1, es.2, rfl, h⟩
theorem ag_dict {m : Bool} {ks : List Int} {vs : MEs} (h : agE P S (.dict m ks vs) e = true) : ∃ p, e = .Dict [] [] p ∧ ks = [] ∧ vs = .nil := by
  cases e <;> first
    | exact ff h
    | (rename_i a b p
       cases a with
       | cons _ _ => exact ff h
       | nil =>
         cases b with
         | cons _ _ => exact ff h
         | nil =>
           cases vs with
           | nil =>
             have h : (ks.isEmpty && true) = true := h
             simp only [Bool.and_true, List.isEmpty_iff] at h
             exact ⟨p, rfl, h, rfl⟩
           | cons _ _ =>
             have h : (ks.isEmpty && false) = true := h
             rw [Bool.and_false] at h; exact nomatch h)
theorem ag_and {es : MEs} (h : agE P S (.and es) e = true) : ∃ vs p, e = .BoolOp .And vs p ∧ agEs P S es vs = true := by
  cases e <;> first
    | exact ff h
    | (rename_i o vs p; cases o <;> first | exact ⟨_, _, rfl, h⟩ | exact ff h)
theorem ag_or {es : MEs} (h : agE P S (.or es) e = true) : ∃ vs p, e = .BoolOp .Or vs p ∧ agEs P S es vs = true := by
  cases e <;> first
    | exact ff h
    | (rename_i o vs p; cases o <;> first | exact ⟨_, _, rfl, h⟩ | exact ff h)
theorem ag_not {m : ME} (h : agE P S (.not m) e = true) : ∃ x p, e = .UnaryOp .Not x p ∧ agE P S m x = true := by
  cases e <;> first
    | exact ff h
    | (rename_i o x p; cases o <;> first | exact ⟨_, _, rfl, h⟩ | exact ff h)
theorem ag_cmp2 {o1 o2 : Op} {a b c : ME} (h : agE P S (.cmp2 o1 o2 a b c) e = true) : ∃ l op1 op2 r1 r2 pos, e = .Compare l [op1, op2] [r1, r2] pos ∧ (decide (cmpTok o1 = some op1) && decide (cmpTok o2 = some op2) && notSet r2 && agE P S a l && agE P S b r1 && agE P S c r2) = true := by
  cases e with
  | Compare l ops rs pos =>
    have h : (match two2 ops rs with
      | some (op1, op2, r1, r2) => decide (cmpTok o1 = some op1) && decide (cmpTok o2 = some op2) && notSet r2 && agE P S a l && agE P S b r1 && agE P S c r2
      | none => false) = true := h
    cases hq : two2 ops rs with
    | none => rw [hq] at h; exact ff h
    | some q =>
      rw [hq] at h
      obtain ⟨rfl, rfl⟩ := two2_inv hq
      exact ⟨l, q.1, q.2.1, q.2.2.1, q.2.2.2, pos, rfl, h⟩
  | _ => exact ff h
theorem ag_call {f : Nat} {args : MEs} (h : agE P S (.call f args) e = true) : ∃ g p as pos, e = .Call (.Name g p) as [] pos ∧ (P.fns[f]? == some g && glob S g && noStar as && !as.isEmpty && agEs P S args as) = true := by
  cases e <;> first
    | exact ff h
    | (rename_i g as kw pos
       cases g <;> first
         | exact ff h
         | (cases kw with
            | nil => exact ⟨_, _, _, _, rfl, h⟩
            | cons _ _ => exact ff h))
theorem ag_comp {m : Bool} {elt : ME} {x : Tg} {it : MI} {ifs : MEs} (h : agE P S (.comp m elt x it ifs) e = true) : ∃ el tg iter fs scope pos, e = .ListComp el [⟨tg, iter, fs, 0⟩] scope pos ∧ ((match agTg S x tg with | some ys => compOk S scope ys | none => false) && okI x it && notSet iter && agI P S it iter && agEs P (S.comp scope) ifs fs && agE P (S.comp scope) elt el) = true := by
  cases e with
  | ListComp el gs scope pos =>
    cases gs with
    | nil => exact ff h
    | cons g gs =>
      obtain ⟨t, iter, fs, a⟩ := g
      cases a with
      | negSucc _ => exact ff h
      | ofNat n =>
        cases n with
        | succ _ => exact ff h
        | zero =>
          cases gs with
          | nil => exact ⟨_, _, _, _, _, _, rfl, h⟩
          | cons _ _ => exact ff h
  | _ => exact ff h
theorem nameOf_inv {e : Expr} {y : Str} (h : nameOf e = some y) : ∃ p, e = .Name y p := by
  cases e with
  | Name y' p => cases h; exact ⟨p, rfl⟩
  | _ => exact nn h
theorem pairL_inv {l : List Expr} {p : Expr × Expr} (h : pairL l = some p) : l = [p.1, p.2] := by
  cases l with
  | nil => exact nn h
  | cons a r =>
    cases r with
    | nil => exact nn h
    | cons b t =>
      cases t with
      | nil => cases h; rfl
      | cons _ _ => exact nn h
theorem pairOf_inv {e : Expr} {p : Expr × Expr} (h : pairOf e = some p) : ∃ n pt, e = .Tuple [p.1, p.2] n pt := by
  cases e with
  | Tuple l n pt => exact ⟨n, pt, ((pairL_inv h) ▸ rfl)⟩
  | _ => exact nn h
inductive TgI (S : Sc) (t : Tg) (tg : Expr) (ys : List Str) : Prop
  | one (i : Nat) (y : Str) (p : Pos) : t = .one i → tg = .Name y p → ys = [y] → S.vars[i]? = some y → TgI S t tg ys
  | two (i j : Nat) (y z : Str) (p p' : Pos) (n1 : Nat) (pt : Pos) : t = .two i j → tg = .Tuple [.Name y p, .Name z p'] n1 pt → ys = [y, z] → S.vars[i]? = some y → S.vars[j]? = some z → TgI S t tg ys
theorem agTg_inv {t : Tg} {tg : Expr} {ys : List Str} (h : agTg S t tg = some ys) : TgI S t tg ys := by
  cases t with
  | one i =>
    obtain ⟨y, hy, h⟩ := Option.bind_eq_some_iff.mp h
    refine Exists.elim (nameOf_inv hy) fun p hx => ?_; obtain rfl := hx
    have hq4 := ite_some' h; exact .one _ _ _ rfl rfl hq4.2 hq4.1
  | two i j =>
    obtain ⟨q, hq3⟩ := Option.bind_eq_some_iff.mp h
    obtain ⟨y, hq2⟩ := Option.bind_eq_some_iff.mp hq3.2
    obtain ⟨z, hq1⟩ := Option.bind_eq_some_iff.mp hq2.2
    refine Exists.elim (pairOf_inv hq3.1) fun n hx => ?_; obtain ⟨pt, e0⟩ := hx
    refine Exists.elim (nameOf_inv hq2.1) ?_; rintro p e1
    refine Exists.elim (nameOf_inv hq1.1) ?_; rintro p' e2
    have hq0 := ite_some' hq1.2; exact .two i j y z p p' n pt rfl ((e0 ▸ e1 ▸ e2 ▸ rfl)) hq0.2 hq0.1.1 hq0.1.2
theorem ag_nil {es : List Expr} (h : agEs P S .nil es = true) : es = [] := List.isEmpty_iff.mp h
theorem ag_cons {m : ME} {ms : MEs} {es : List Expr} (h : agEs P S (.cons m ms) es = true) : ∃ e r, es = e :: r ∧ (agE P S m e && agEs P S ms r) = true := by
  cases es with
  | nil => exact ff h
  | cons e r => exact ⟨e, r, rfl, h⟩
theorem ag_iter {n : String} {ms : MEs} (h2 : (match iterArgs n S e with | some es => agEs P S ms es | none => false) = true) : ∃ f p args pos, e = .Call (.Name f p) args [] pos ∧ (f = Str.ofString n ∧ glob S f = true ∧ noStar args = true ∧ args.isEmpty = false) ∧ agEs P S ms args = true := by
  cases hr : iterArgs n S e with
  | none => rw [hr] at h2; exact nomatch h2
  | some es =>
    rw [hr] at h2
    have h2 : agEs P S ms es = true := h2
    cases e <;> first
      | exact nn hr
      | (rename_i g as kw pos
         cases g <;> first
           | exact nn hr
           | (cases kw with
              | nil => obtain ⟨h1, rfl⟩ := ite_some' hr; exact ⟨_, _, _, _, rfl, h1, h2⟩
              | cons _ _ => exact nn hr))
end
noncomputable def SpecMono (Φ : Spec) : Prop := ∀ f vs (Q Q' : Post) σ, Φ f vs Q σ → (∀ d σ', Q d σ' → Q' d σ') → Φ f vs Q' σ
structure Lnk (W : Wd) (A : Around) (P : Pg) (Φ : Spec) (Gc : Nat → V) : Prop where
  fn : ∀ f g, P.fns[f]? = some g → ∃ a o fd, W.mg g = some (.ref a) ∧ W.s₀.heap.get? a = some o ∧ o.data = .func fd ∧
    ∀ C ls σ s vs xs Q, C.W = W → C.A = A → Good C σ ls s → Reals s.heap (C.D σ) vs xs → Φ f xs Q σ → TrE C ls (call (.ref a) vs) (RV C Q) σ s
  gc : ∀ k x, P.gcs[k]? = some x → ∃ v, W.mg x = some v ∧ ∀ h D, Real h D v (Gc k)
  blt : Blt W
  mono : SpecMono Φ

/-- what an expression's walk is given -/
structure Sit (C : Cx) (S : Sc) (P : Pg) (Φ : Spec) (Gc : Nat → V) : Prop where
  R : Rm C
  of : S.Of C
  lnk : Lnk C.W C.A P Φ Gc

section
variable {C : Cx} {S : Sc} {P : Pg} {Φ : Spec} {Gc : Nat → V} {ls : Ls} {σ : View} {s : Shared}

theorem Sit.comp (T : Sit C S P Φ Gc) (hk : C.env.scope.kind = .function) {scope : Scope} {cl : List (Str × Addr)} {L a : Addr} {wr : List Addr} : Sit (C.comp scope cl L a wr) (S.comp scope) P Φ Gc :=
  ⟨⟨T.R.ok, T.R.hh, T.R.units⟩, comp_of T.of hk, T.lnk⟩
theorem Sit.more (T : Sit C S P Φ Gc) {wr : List Addr} : Sit (C.more wr) S P Φ Gc := ⟨⟨T.R.ok, T.R.hh, T.R.units⟩, ⟨T.of.names, T.of.vars⟩, T.lnk⟩

theorem isLoc_kind (h : isLoc S x = true) : (S.names.lookup x = some .local ∨ S.names.lookup x = some .cell ∨ S.names.lookup x = some .free) ∧ (x == ("__debug__" : Str)) = false ∧ (x == ("__classdict__" : Str)) = false := by
  unfold isLoc at h
  simp only [Bool.and_eq_true, Bool.not_eq_true'] at h
  refine ⟨?_, h.1.2, h.2⟩
  have h1 := h.1.1
  split at h1
  · rename_i e; exact .inl e
  · rename_i e; exact .inr (.inl e)
  · rename_i e; exact .inr (.inr e)
  · exact ff h1

theorem tr_var (T : Sit C S P Φ Gc) (G : Good C σ ls s) {i : Nat} {x : Str} {pos : Pos} {Q : Post} (hi : S.vars[i]? = some x) (hl : isLoc S x = true) (h : ∃ d, ls i = some d ∧ Q d σ) : TrE C ls (eval (.Name x pos) C.env) (RV C Q) σ s := by
  refine Exists.elim h ?_; rintro d hq2
  obtain ⟨hk, hq1⟩ := isLoc_kind hl
  refine Exists.elim (G.fr.val i x d ((T.of.vars ▸ hi)) (by rw [kindOf_eq T.of]; exact hk) hq2.1) ?_; rintro v hq0
  have fin : EOut C ls (RV C Q) s.heap σ v s := ⟨σ, G, Step.refl _ _ _, d, hq0.2, hq2.2⟩
  rcases hq0.1 with ⟨hloc, m, hm, e⟩ | ⟨hc | hc, c, hc', hcell⟩
  · exact wpAny_Name (wpAny_loadName_local G.fr.kind hloc hm e fin) hq1.1
  · exact wpAny_Name (wpAny_loadName_cell G.fr.kind hc hc' hcell fin) hq1.1
  · exact wpAny_Name (wpAny_loadName_free G.fr.kind hc hc' hcell fin hq1.2) hq1.1

theorem tr_lit (G : Good C σ ls s) {d : V} {c : Const} {k : Nat} {pos : Pos} {Q : Post} (h : litOk d c = true) (q : Q d σ) : TrE C ls (eval (.Constant c k pos) C.env) (RV C Q) σ s := by
  have no : ∀ {P : Prop}, false = true → P := fun h => (ff h)
  cases d with
  | none => cases c <;> first | exact no h | exact TrE.pure G ⟨_, .none, q⟩
  | bool a => cases c <;> first | exact no h | (have h : (a == _) = true := h; replace h := of_decide_eq_true h; subst h; exact TrE.pure G ⟨_, .bool _, q⟩)
  | int a => cases c <;> first | exact no h | (have h : (a == _) = true := h; replace h := of_decide_eq_true h; subst h; exact wpAny_Constant_int ⟨σ, G.toks _, Step.refl _ _ _, _, .int _ _, q⟩)
  | str a =>
    cases c <;> first
      | exact no h
      | (have h : (a == _ && PyData.strOk a && decide (a.cps.size ≤ 1000)) = true := h
         simp only [Bool.and_eq_true, beq_iff_eq, decide_eq_true_eq] at h
         obtain ⟨⟨rfl, h1⟩, h2⟩ := h
         exact PySem.Calls.Constant_str ⟨σ, G.toks _, Step.refl _ _ _, _, .str _ _ h1 (Nat.le_trans h2 (by decide)), q⟩)
  | _ => cases c <;> exact no h

theorem truthy_of {v : Value} {d : V} {b : Bool} {Q : Bool → Shared → Prop} {E : Value → Shared → Prop} {M : Model} {A : Around} {D : Addr → Prop} (r : Real s.heap D v d) (h : truthV d = some b) (q : Q b s) : wpAny M A (truthy v) Q E s := by
  unfold truthV at h
  split at h
  · obtain rfl := r.none_i; cases h; exact fun _ _ _ => q
  · obtain rfl := r.bool_i; cases h; exact wpAny_truthy_bool q
  · exact nn h
theorem tr_truthy (G : Good C σ ls s) {v : Value} {d : V} {b : Bool} {Q : Bool → View → Shared → Prop} (r : Real s.heap (C.D σ) v d) (h : truthV d = some b) (q : Q b σ s) : TrE C ls (truthy v) Q σ s := truthy_of r h (TrE.end G q)

theorem tr_dict (G : Good C σ ls s) {pos : Pos} {m : Bool} {Q : Post} (hW : C.W.Ok) (h : if m then ∀ a, σ a = none → Q (.ref a) (σ.upd a (.dict false [])) else Q (.dct []) σ) : TrE C ls (eval (.Dict [] [] pos) C.env) (RV C Q) σ s := by
  cases m with
  | true =>
    skip
    refine TrE.newCell (c := .dict false []) G (wpAny_Dict_empty ⟨_, _, s.toks, rfl, rfl, fun b o e => Heap.get?_push_of_some _ e, Nat.le_refl _, #[], 0, Heap.get?_push_size _ rfl, by simp, by simp, .nil⟩) h
  | false =>
    skip
    refine Gives.then (d := .dct []) (Gives.new G (o := dictObj #[] 0) ?_ (wpAny_Dict_empty ⟨rfl, s.toks, rfl⟩)) h
    exact .dct (Heap.get?_push_size _ rfl) (by simp) (by simp) (Nat.lt_of_lt_of_le hW.two G.larger) G.newAddr .nil
end
end Mine
end

section

open PySem PyProof.Rows
namespace Mine
section
variable {C : Cx} {S : Sc} {P : Pg} {Φ : Spec} {Gc : Nat → V} {ls : Ls} {σ : View} {s : Shared}

theorem tr_test_plain {e : Expr} (h : tplain e = true) {Q : Bool → View → Shared → Prop} (hv : TrE C ls (eval e C.env) (fun v σ' s' => ∃ d b, Real s'.heap (C.D σ') v d ∧ truthV d = some b ∧ Q b σ' s') σ s) :
    TrE C ls (isTrue e C.env (eval e C.env)) Q σ s := by
  have dflt : isTrue e C.env (eval e C.env) = (do let v ← eval e C.env; standAt e.pos; holding [v] (truthy v)) → TrE C ls (isTrue e C.env (eval e C.env)) Q σ s := by
    intro he
    rw [he]
    exact TrE.bind (TrE.mono hv fun v σ' s' G' _ ⟨d, b, r, hb, q⟩ => TrE.bind (TrE.standAt G' (TrE.holding (tr_truthy G' r hb q))))
  cases e <;> first
    | exact dflt rfl
    | exact ff h
    | skip
  · rename_i op x pos
    cases op <;> first | exact dflt rfl | exact ff h
  · rename_i l ops rs pos
    match ops, rs, h with
    | [op], [r], h =>
      have h : notSet r = true := h
      rw [isTrue_Compare1, markedBehindIn_of_false (notSet_marks h)]
      rw [eval_Compare1, markedBehindIn_of_false (notSet_marks h)] at hv
      have e : (do let a ← eval l C.env; let b ← holding [a] (eval r C.env); standAt pos; let c ← operate [a, b] (compareOp op a b); holding [c] (truthy c) : Sem Bool) =
          ((do let a ← eval l C.env; let b ← holding [a] (eval r C.env); standAt pos; operate [a, b] (compareOp op a b)) >>= fun c => holding [c] (truthy c)) := by
        simp only [bind_assoc]
      rw [e]
      exact TrE.bind (TrE.mono hv fun v σ' s' G' _ ⟨d, b, r, hb, q⟩ => TrE.holding (tr_truthy G' r hb q))

theorem shp_tplain {o : Op} {e : Expr} {es : List Expr} (h : shp S o e = some es) : tplain e = true := by
  cases shp_inv h <;> first | rfl | assumption
theorem mshp_tplain {o : Op} {e b : Expr} {es : List Expr} (h : mshp o e = some (b, es)) : tplain e = true := by
  refine Exists.elim (mshp_inv h) fun name hx => ?_; obtain ⟨apos, pos, n, T, id, rfl, _⟩ := hx; rfl

theorem callWith_fn (T : Sit C S P Φ Gc) {pos : Pos} {f : Nat} {g : Str} {args : List Expr} {Q : Post} (hf : P.fns[f]? = some g) (hn : args.isEmpty = false) (G : Good C σ ls s) {a : Addr} (ha : C.W.mg g = some (.ref a))
    (h : Ev C ls args (fun vs σ' s' => Good C σ' ls s' ∧ ∃ xs, Reals s'.heap (C.D σ') vs xs ∧ Φ f xs Q σ') σ s) : TrE C ls (callWith pos (.ref a) [] (args.map fun e => (false, eval e C.env)) []) (RV C Q) σ s := by
  refine Exists.elim (T.lnk.fn f g hf) fun a' hx => ?_; obtain ⟨o, fd, h1, hq0⟩ := hx
  cases Eq.trans (Eq.symm ha) h1
  have hs := spliced_ev G h
  have hsp : wpAny (model C.W.prog C.W.w) C.A (spliced (args.map fun e => (false, eval e C.env))) (fun vs s₁ => (s₁.heap.get? a = some o ∧ o.data = .func fd) ∧ wpAny (model C.W.prog C.W.w) C.A (call (.ref a) ([] ++ vs)) (EOut C ls (RV C Q) s.heap σ) (fun _ _ => False) s₁) (fun _ _ => False) s :=
    wpAny_mono hs (fun vs s₁ hx => by obtain ⟨σ₁, G₁, S₁, _, xs, rs, hφ⟩ := hx; exact ⟨⟨G₁.stays _ _ hq0.1, hq0.2.1⟩, wpAny_mono (hq0.2.2 C ls σ₁ s₁ vs xs Q rfl rfl G₁ rs hφ) (fun v s₂ hx => by obtain ⟨σ₂, G₂, S₂, q⟩ := hx; exact ⟨σ₂, G₂, S₁.trans S₂, q⟩) fun _ _ x => x⟩) fun _ _ x => x
  cases args with
  | nil => exact ff2 hn
  | cons e es => exact PySem.Calls.callWith_function (PySem.Calls.evalArgs_plain hsp)
end
end Mine
end

section

open PySem PyProof.Rows
namespace Mine
section
variable {C : Cx} {S : Sc} {P : Pg} {Φ : Spec} {Gc : Nat → V} {ls : Ls} {σ : View} {s : Shared}

theorem folded_plain {iter : Expr} {env : Env} (h : notSet iter = true) (x : Value) : foldedSetIterable iter env x = pure x := by
  skip
  cases iter <;> first | rfl | exact ff h

/-- a loop's source -/
inductive SrcR (C : Cx) (ls : Ls) (t : Tg) (tgt : Expr) (Q : List V → List V → View → Prop) (h : Heap) (σ : View) (r : Value) (s' : Shared) : Prop
  | mk (σ₁ : View) (s₁ : Shared) (us xs : List V) : Good C σ₁ ls s₁ → Step C.own h σ s₁.heap σ₁ → Src C tgt (rpOf t) s₁ σ₁ us xs r s' → Q xs us σ₁ → SrcR C ls t tgt Q h σ r s'
noncomputable def SrcAt (C : Cx) (ls : Ls) (t : Tg) (tgt iter : Expr) (Q : List V → List V → View → Prop) (σ : View) (s : Shared) : Prop :=
  wpAny (model C.W.prog C.W.w) C.A (eval iter C.env) (SrcR C ls t tgt Q s.heap σ) (fun _ _ => False) s
theorem SrcAt.mono {t : Tg} {tgt iter : Expr} {Q Q' : List V → List V → View → Prop} (h : SrcAt C ls t tgt iter Q σ s) (k : ∀ xs us σ₁, Q xs us σ₁ → Q' xs us σ₁) : SrcAt C ls t tgt iter Q' σ s :=
  wpAny_mono h (fun r s' x => by obtain ⟨σ₁, s₁, us, xs, G, S, c, q⟩ := x; exact ⟨σ₁, s₁, us, xs, G, S, c, k _ _ _ q⟩) fun _ _ x => x
/-- what a comprehension's walk is given -/
inductive CompQ (C : Cx) (ls : Ls) (scope : Scope) (t : Tg) (elt : Expr) (ifs : List Expr) (fin : List V → View → List V → View → Prop) (xs us : List V) (σ₁ : View) : Prop
  | mk (J : Nat → List V → View → Prop) : xs.length ≤ big → J 0 [] (lockV σ₁ us) →
    (∀ cl L a wr k v acc σ₂ s₂, Good (C.comp scope cl L a wr) σ₂ (t.up v ls) s₂ → xs[k]? = some v → J k acc σ₂ → TrE (C.comp scope cl L a wr) (t.up v ls) (testsT ifs (C.comp scope cl L a wr).env) (fun ok σ₃ s₃ =>
      if ok = true then TrE (C.comp scope cl L a wr) (t.up v ls) (eval elt (C.comp scope cl L a wr).env) (RV (C.comp scope cl L a wr) fun d σ₄ => J (k + 1) (acc ++ [d]) σ₄) σ₃ s₃ else J (k + 1) acc σ₃) σ₂ s₂) →
    (∀ acc σ₂, J xs.length acc σ₂ → fin us σ₁ acc σ₂) → CompQ C ls scope t elt ifs fin xs us σ₁
noncomputable def CompHyp (C : Cx) (ls : Ls) (scope : Scope) (t : Tg) (tgt iter elt : Expr) (ifs : List Expr) (fin : List V → View → List V → View → Prop) (σ : View) (s : Shared) : Prop :=
  SrcAt C ls t tgt iter (CompQ C ls scope t elt ifs fin) σ s

/-- a comprehension's targets are its own names -/
theorem comp_asg (T : Sit C S P Φ Gc) (hk : C.env.scope.kind = .function) {scope : Scope} {cl : List (Str × Addr)} {L a : Addr} {wr : List Addr} {t : Tg} {tgt : Expr} {ys : List Str} (hc : compOk S scope ys = true) (hy : agTg S t tgt = some ys) : Asg (C.comp scope cl L a wr) tgt (rpOf t) t.up := by
  have hl : ∀ y ∈ ys, Stor (C.comp scope cl L a wr) y := fun y hm => by
    refine .inl ?_
    show (relabel scope C.env).names.lookup y = some .local
    simp only [comp_names T.of hk, relab_lookup, (compOk_parts hc).2.1 y hm]
    rfl
  have hv : (C.comp scope cl L a wr).vars = S.vars := T.of.vars
  rcases agTg_inv hy with ⟨i, y, p, rfl, rfl, rfl, h1⟩ | ⟨i, j, y, z, p, p', n1, pt, rfl, rfl, rfl, h1, h2⟩
  · exact asg1 ((hv ▸ h1)) (hl y (.head _))
  · exact asg2 T.R.hh ((hv ▸ h1)) (hl y (.head _)) ((hv ▸ h2)) (hl z (.tail _ (.head _)))
theorem tg_idx {t : Tg} {tgt : Expr} {ys : List Str} (hy : agTg S t tgt = some ys) : ∀ z ∈ ys, ∃ i ∈ t.idx, S.vars[i]? = some z := by
  intro z hz
  rcases agTg_inv hy with ⟨i, y, p, rfl, rfl, rfl, h1⟩ | ⟨i, j, y, z', p, p', n1, pt, rfl, rfl, rfl, h1, h2⟩
  · cases hz with
    | head => exact ⟨i, .head _, h1⟩
    | tail _ h => cases h
  · cases hz with
    | head => exact ⟨i, .head _, h1⟩
    | tail _ h =>
      cases h with
      | head => exact ⟨j, .tail _ (.head _), h2⟩
      | tail _ h => cases h

theorem comp_walk (T : Sit C S P Φ Gc) (G : Good C σ ls s) {scope : Scope} {t : Tg} {ys : List Str} {pos : Pos} {tgt iter elt : Expr} {ifs : List Expr} {fin : List V → View → List V → View → Prop} (hc : compOk S scope ys = true) (hy : agTg S t tgt = some ys) (hns : notSet iter = true)
    (h : CompHyp C ls scope t tgt iter elt ifs fin σ s) {use : Option (Value → Sem Unit)} {Q : Value → Shared → Prop}
    (hend : ∀ (σ₁ : View) (s₁ : Shared) us acc σ₂ L a (s₄ : Shared), Step C.own s.heap σ s₁.heap σ₁ → fin us σ₁ acc σ₂ → (∃ m, s₄.heap.Ns L m) → s₁.heap.objs.size ≤ L → (∀ b, C.own b ∨ C.B b → b ≠ L) →
      (Good (C.more [L]) (unlockV σ₁ us σ₂) ls s₄ ∧ Step C.own s₁.heap σ₁ s₄.heap (unlockV σ₁ us σ₂) ∧ Real s₄.heap ((C.more [L]).D (unlockV σ₁ us σ₂)) (.ref a) (.lst acc)) →
      (Good (C.more [L]) ((unlockV σ₁ us σ₂).upd a (.list false acc)) ls s₄ ∧ Step C.own s₁.heap σ₁ s₄.heap ((unlockV σ₁ us σ₂).upd a (.list false acc)) ∧ unlockV σ₁ us σ₂ a = none) →
      compPost (model C.W.prog C.W.w) C.A (fun _ _ => False) use Q (.ref a) L (.ok .next) s₄) :
    wpAny (model C.W.prog C.W.w) C.A (comprehension (.ListComp elt [⟨tgt, iter, ifs, 0⟩] scope pos) scope C.env (firstIterPos [⟨tgt, iter, ifs, 0⟩] pos) (newList []) (firstAsync [⟨tgt, iter, ifs, 0⟩]) (firstIter [⟨tgt, iter, ifs, 0⟩] C.env) use) Q (fun _ _ => False) s := by
  have hq1 := compOk_parts hc
  obtain ⟨cl, hcl⟩ := closOf_some C.env.cells scope.names [] fun n hm => G.fr.has n (by rw [kindOf_eq T.of]; exact (hq1.2.2 n _ hm).2.2.1 rfl)
  refine wpAny_comprehension_free (use := use) rfl (folded_plain hns) (closureFor_of hcl) hq1.1 (fun x hx hl => by have := (hq1.2.2 x.1 x.2 hx).2.1; simp only [hl] at this; exact this) ?_
  skip
  refine wpAny_mono h ?_ fun _ _ x => x
  rintro r s' ⟨σ₁, s₁, us, xs, G₁, S₁, src, J, hbig, hJ, hturn, hfin⟩
  refine src _ fun it wr h₂ tk fp Pp St I st k₂ hz₂ => ?_
  refine comp_loop T.R T.of G₁ I st k₂ hz₂ hbig hc (tg_idx hy) hcl (fun L a => comp_asg T G.fr.kind hc hy) J hJ (RR := fun acc L => compPost (model C.W.prog C.W.w) C.A (fun _ _ => False) use Q acc L) (fun L a k v acc σ₂ s₂ G₂ hv hJ₂ => ?_) fun L a vs n acc σ₂ s₃ h₄ tk hL ha hw haL Gr S₃ hav hvz rs hns3 k hz hJf => ?_
  · exact hturn cl L a wr k v acc σ₂ s₂ G₂ hv hJ₂
  · have hq0 := comp_end (tk := tk) G₁ hL ha hw haL Gr S₃ hav hvz rs hns3 k hz
    exact hend σ₁ s₁ us acc σ₂ L a _ S₁ (hfin acc σ₂ hJf) hq0.2.2 hL (fun b hb => Nat.ne_of_lt (Nat.lt_of_lt_of_le (G₁.toGround.lt (.inr hb)) hL)) hq0.1 hq0.2.1

theorem comp_value (T : Sit C S P Φ Gc) (G : Good C σ ls s) {m : Bool} {scope : Scope} {t : Tg} {ys : List Str} {pos : Pos} {tgt iter elt : Expr} {ifs : List Expr} {Q : Post} (hc : compOk S scope ys = true) (hy : agTg S t tgt = some ys) (hns : notSet iter = true)
    (h : CompHyp C ls scope t tgt iter elt ifs (fun us σ₁ acc σ₂ => if m = true then ∀ a, unlockV σ₁ us σ₂ a = none → Q (.ref a) ((unlockV σ₁ us σ₂).upd a (.list false acc)) else Q (.lst acc) (unlockV σ₁ us σ₂)) σ s) :
    TrE C ls (eval (.ListComp elt [⟨tgt, iter, ifs, 0⟩] scope pos) C.env) (RV C Q) σ s := by
  skip
  refine comp_walk T G hc hy hns h fun σ₁ s₁ us acc σ₂ L a s₄ S₁ hf hL hLs hne e1 e2 => ⟨hL.choose, hL.choose_spec, fun h' hs' => ?_⟩
  have nw : ∀ b, C.own b ∨ C.B b → b ∉ [L] := fun b hb h => by replace h := List.mem_singleton.mp h; exact hne b hb h
  have kk : ∀ b o, b ∉ [L] → s₄.heap.get? b = some o → h'.get? b = some o := fun b o hb e => hs'.extBut b o (by simpa using hb) e
  have Lv : ∀ τ : View, Leaves s₄.heap ((C.more [L]).D τ) h' (C.D τ) := fun τ b o e hd => ⟨kk b o (fun h => hd ((D_more b).mpr (.inr h))) e, fun h => hd ((D_more b).mpr (.inl h))⟩
  have St : ∀ τ : View, Step C.own s₁.heap σ₁ s₄.heap τ → Step C.own s.heap σ h' τ := fun τ S₂ => by
    have hLn : ∀ b o, s₁.heap.get? b = some o → b ∉ [L] := fun b o e h => by replace h := List.mem_singleton.mp h; exact absurd (Heap.lt_size e) (Nat.not_lt.mpr ((h ▸ hLs)))
    exact S₁.trans ⟨fun b o e hr ho => kk b o (hLn b o e) (S₂.keep b o e hr ho), (hs'.1 ▸ S₂.size), S₂.grow, S₂.ro⟩
  cases m with
  | false =>
    skip
    exact ⟨_, Good.endL (tk := s₄.toks) G e1.1 nw (Nat.le_of_eq hs'.1.symm) kk, St _ e1.2.1, .lst acc, e1.2.2.leaves (Lv _), hf⟩
  | true =>
    skip
    exact ⟨_, Good.endL (tk := s₄.toks) G e2.1 nw (Nat.le_of_eq hs'.1.symm) kk, St _ e2.2.1, .ref a, .ref a, hf a e2.2.2⟩

/-- statements: on, or back with a value -/
inductive FlowN (C : Cx) (Q : View → Ls → Prop) (σ : View) (s : Shared) : Prop
  | mk (ls : Ls) : Good C σ ls s → Q σ ls → FlowN C Q σ s
inductive FlowR (C : Cx) (R : Post) (v : Value) (σ : View) (s : Shared) : Prop
  | mk (ls : Ls) (x : V) : Good C σ ls s → Real s.heap (C.D σ) v x → R x σ → FlowR C R v σ s
noncomputable def FlowOk (C : Cx) (Q : View → Ls → Prop) (R : Post) (f : Flow) (σ : View) (s : Shared) : Prop := match f with
  | .next => FlowN C Q σ s
  | .ret v => FlowR C R v σ s
  | _ => False
inductive SOut (C : Cx) (Q : View → Ls → Prop) (R : Post) (h : Heap) (σ : View) (f : Flow) (s' : Shared) : Prop
  | mk (σ' : View) : Step C.own h σ s'.heap σ' → FlowOk C Q R f σ' s' → SOut C Q R h σ f s'
noncomputable def TrS (C : Cx) (t : Sem Flow) (Q : View → Ls → Prop) (R : Post) (σ : View) (s : Shared) : Prop :=
  wpAny (model C.W.prog C.W.w) C.A t (SOut C Q R s.heap σ) (fun _ _ => False) s
theorem TrS.after {t : Sem Flow} {Q : View → Ls → Prop} {R : Post} {h₀ : Heap} {σ₀ : View} (S₀ : Step C.own h₀ σ₀ s.heap σ) (h : TrS C t Q R σ s) : wpAny (model C.W.prog C.W.w) C.A t (SOut C Q R h₀ σ₀) (fun _ _ => False) s :=
  wpAny_mono h (fun f s' x => by obtain ⟨σ', S', hf⟩ := x; exact ⟨σ', S₀.trans S', hf⟩) fun _ _ x => x

theorem comp_assign (T : Sit C S P Φ Gc) (G : Good C σ ls s) {m : Bool} {scope : Scope} {x : Str} {t : Tg} {ys : List Str} {ti : Nat} {pt pos spos : Pos} {tgt iter elt : Expr} {ifs : List Expr} {Q : View → Ls → Prop} {Rt : Post} (hc : compOk S scope ys = true) (hy : agTg S t tgt = some ys) (hns : notSet iter = true)
    (ht : S.vars[ti]? = some x) (hk : C.env.kindOf x = some .local) (hsw : swapsWith (.ListComp elt [⟨tgt, iter, ifs, 0⟩] scope pos) (some (.Name x pt)) spos.line C.env = pure true)
    (h : CompHyp C ls scope t tgt iter elt ifs (fun us σ₁ acc σ₂ => if m = true then ∀ a, unlockV σ₁ us σ₂ a = none → Q ((unlockV σ₁ us σ₂).upd a (.list false acc)) (ls.set ti (.ref a)) else Q (unlockV σ₁ us σ₂) (ls.set ti (.lst acc))) σ s) :
    TrS C (exec (.Assign [.Name x pt] (.ListComp elt [⟨tgt, iter, ifs, 0⟩] scope pos) spos) C.env) Q Rt σ s := by
  unfold TrS
  refine (exec_Assign_Name_used _ _ _ _ hsw) ▸ ?_
  refine wpAny_bind (wpAny_standAt (wpAny_bind ?_))
  skip
  refine wpAny_bind (comp_walk (use := some (assign (.Name x pt) C.env)) (Q := fun _ s' => wpAny (model C.W.prog C.W.w) C.A (pure ()) (fun _ s'' => wpAny (model C.W.prog C.W.w) C.A (pure Flow.next) (SOut C Q Rt s.heap σ) (fun _ _ => False) s'') (fun _ _ => False) s') T G hc hy hns h fun σ₁ s₁ us acc σ₂ L a s₄ S₁ hf hL hLs hne e1 e2 => ?_)
  have nw : ∀ b, C.own b ∨ C.B b → b ∉ [L] := fun b hb h => by replace h := List.mem_singleton.mp h; exact hne b hb h
  have main : ∀ (τ : View) (d : V), Good (C.more [L]) τ ls s₄ → Step C.own s₁.heap σ₁ s₄.heap τ → Real s₄.heap ((C.more [L]).D τ) (.ref a) d → Q τ (ls.set ti d) →
      wpAny (model C.W.prog C.W.w) C.A (assign (.Name x pt) C.env (.ref a)) (fun _ s'' => ∃ m, s''.heap.Ns L m ∧ ∀ h', Heap.SameBut L s''.heap h' → wpAny (model C.W.prog C.W.w) C.A (pure ()) (fun _ s'' => wpAny (model C.W.prog C.W.w) C.A (pure Flow.next) (SOut C Q Rt s.heap σ) (fun _ _ => False) s'') (fun _ _ => False) { s'' with heap := h' }) (fun _ _ => False) s₄ := by
    intro τ d Gm Sm rd hq
    refine wpAny_assign_Name ?_
    refine store (C := C.more [L]) (i := ti) (d := d) Gm (by rw [more_vars, T.of.vars]; exact ht) (.inl hk) rd fun s₅ G₅ S₅ => ?_
    obtain ⟨m', hm'⟩ := hL
    refine ⟨m', hm'.at' fun o e => S₅.keep L o e (Rw.of_none (Gm.apart L (.inr (.inr (.head _))))) fun h => Gm.apart2 L h (.inr (.head _)), fun h' hs' => ?_⟩
    have kk : ∀ b o, b ∉ [L] → s₅.heap.get? b = some o → h'.get? b = some o := fun b o hb e => hs'.extBut b o (by simpa using hb) e
    have hLn : ∀ b o, s₁.heap.get? b = some o → b ∉ [L] := fun b o e h => by replace h := List.mem_singleton.mp h; exact absurd (Heap.lt_size e) (Nat.not_lt.mpr ((h ▸ hLs)))
    have S₆ := Sm.trans S₅
    refine wpAny_pure (wpAny_pure ⟨τ, S₁.trans ⟨fun b o e hr ho => kk b o (hLn b o e) (S₆.keep b o e hr ho), (hs'.1 ▸ S₆.size), S₆.grow, S₆.ro⟩, ls.set ti d, ?_, hq⟩)
    exact Good.endL (tk := s₅.toks) G G₅ nw (Nat.le_of_eq hs'.1.symm) kk
  skip
  cases m with
  | false =>
    skip
    exact main _ _ e1.1 e1.2.1 e1.2.2 hf
  | true =>
    skip
    exact main _ _ e2.1 e2.2.1 (.ref a) (hf a e2.2.2)
end
end Mine
end

section

open PySem PyProof.Rows
set_option linter.unusedVariables false
namespace Mine
theorem ex_mono {Q Q' : Post} {σ : View} {o : Op} {vs : List V} (h : ∃ d, pureOp o σ vs = some d ∧ Q d σ) (k : ∀ d σ', Q d σ' → Q' d σ') : ∃ d, pureOp o σ vs = some d ∧ Q' d σ := by refine Exists.elim h ?_; rintro d hq0; exact ⟨d, hq0.1, k _ _ hq0.2⟩
theorem q1_mono {f g : V → Prop} {vs : List V} (h : q1 f vs) (k : ∀ x, f x → g x) : q1 g vs := by refine Exists.elim (q1_inv h) fun x hx => ?_; obtain ⟨rfl, h⟩ := hx; exact k x h
theorem q2_mono {f g : V → V → Prop} {vs : List V} (h : q2 f vs) (k : ∀ x y, f x y → g x y) : q2 g vs := by refine Exists.elim (q2_inv h) fun x hx => ?_; obtain ⟨y, rfl, h⟩ := hx; exact k x y h
theorem q3_mono {f g : V → V → V → Prop} {vs : List V} (h : q3 f vs) (k : ∀ x y z, f x y z → g x y z) : q3 g vs := by refine Exists.elim (q3_inv h) fun x hx => ?_; obtain ⟨y, z, rfl, h⟩ := hx; exact k x y z h
theorem onR_mono {f g : Addr → Prop} {v : V} (h : onR f v) (k : ∀ a, f a → g a) : onR g v := by refine Exists.elim (onR_inv h) fun a hx => ?_; obtain ⟨rfl, h⟩ := hx; exact k a h
theorem onI_mono {f g : Int → Prop} {v : V} (h : onI f v) (k : ∀ a, f a → g a) : onI g v := by refine Exists.elim (onI_inv h) fun a hx => ?_; obtain ⟨rfl, h⟩ := hx; exact k a h
theorem onL_mono {f g : List V → Prop} {v : V} (h : onL f v) (k : ∀ a, f a → g a) : onL g v := by refine Exists.elim (onL_inv h) fun a hx => ?_; obtain ⟨rfl, h⟩ := hx; exact k a h
theorem prim_mono {o : Op} {vs : List V} {Q Q' : Post} {σ : View} (h : prim o vs Q σ) (k : ∀ d σ', Q d σ' → Q' d σ') : prim o vs Q' σ := by
  cases o <;> first
    | exact ex_mono h k
    | exact q1_mono h fun x h => by refine Exists.elim h ?_; rintro xs hq3; exact ⟨xs, hq3.1, fun a ha => k _ _ (hq3.2 a ha)⟩
    | exact q2_mono h fun x y h => onR_mono h fun a h => by refine Exists.elim h ?_; rintro xs hq2; exact ⟨xs, hq2.1, hq2.2.1, k _ _ hq2.2.2⟩
    | exact q2_mono h fun x y h => onR_mono h fun a h => onL_mono h fun l h => by refine Exists.elim h ?_; rintro xs hq1; exact ⟨xs, hq1.1, hq1.2.1, k _ _ hq1.2.2⟩
    | exact q2_mono h fun x y h => onR_mono h fun a h => onI_mono h fun l h => by refine Exists.elim h fun xs hx => ?_; obtain ⟨x, hq0⟩ := hx; exact ⟨xs, x, hq0.1, hq0.2.1, k _ _ hq0.2.2⟩
    | exact q1_mono h fun x h => onR_mono h fun a h => by obtain ⟨xs, x, h1, h2⟩ := h; exact ⟨xs, x, h1, k _ _ h2⟩
    | exact q3_mono h fun x y z h => onR_mono h fun a h => onI_mono h fun l h => by obtain ⟨xs, h1, h2⟩ := h; exact ⟨xs, h1, k _ _ h2⟩
    | exact ⟨h.1, fun a ha => k _ _ (h.2 a ha)⟩

section
variable {Φ : Spec} {G : Nat → V}
noncomputable def MonE (Φ : Spec) (G : Nat → V) (m : ME) : Prop := ∀ {ls : Ls} {Q Q' : Post} {σ : View}, ewp Φ G ls m Q σ → (∀ d σ', Q d σ' → Q' d σ') → ewp Φ G ls m Q' σ
noncomputable def MonEs (Φ : Spec) (G : Nat → V) (ms : MEs) : Prop := ∀ {ls : Ls} {Q Q' : List V → View → Prop} {σ : View}, ewps Φ G ls ms Q σ → (∀ vs σ', Q vs σ' → Q' vs σ') → ewps Φ G ls ms Q' σ
noncomputable def MonA (Φ : Spec) (G : Nat → V) (ms : MEs) : Prop := ∀ {ls : Ls} {Q Q' : Post} {σ : View}, ewpAnd Φ G ls ms Q σ → (∀ d σ', Q d σ' → Q' d σ') → ewpAnd Φ G ls ms Q' σ
noncomputable def MonO (Φ : Spec) (G : Nat → V) (ms : MEs) : Prop := ∀ {ls : Ls} {Q Q' : Post} {σ : View}, ewpOr Φ G ls ms Q σ → (∀ d σ', Q d σ' → Q' d σ') → ewpOr Φ G ls ms Q' σ
noncomputable def MonI (Φ : Spec) (G : Nat → V) (it : MI) : Prop := ∀ {ls : Ls} {Q Q' : List V → List V → View → Prop} {σ : View}, ewpI Φ G ls it Q σ → (∀ xs us σ', Q xs us σ' → Q' xs us σ') → ewpI Φ G ls it Q' σ
theorem m_var {i : Nat} : MonE Φ G (.var i) := fun h k => by refine Exists.elim h ?_; rintro d hq0; exact ⟨d, hq0.1, k _ _ hq0.2⟩
theorem m_op {o : Op} {args : MEs} (ih : MonEs Φ G args) : MonE Φ G (.op o args) := fun h k => ih h fun vs σ' h' => prim_mono h' k
theorem m_meth {o : Op} {b : ME} {args : MEs} (ih0 : MonE Φ G b) (ih : MonEs Φ G args) : MonE Φ G (.meth o b args) := fun h k => ih0 h fun x σ₁ h => ⟨h.1, ih h.2 fun vs σ' h' => prim_mono h' k⟩
theorem m_dict {m : Bool} {ks : List Int} {vs : MEs} (ih : MonEs Φ G vs) : MonE Φ G (.dict m ks vs) := fun h k => ih h fun vv σ' h => by
  refine ⟨h.1, h.2.1, ?_⟩
  have h3 := h.2.2
  cases m with
  | true => exact fun a ha => k _ _ (h3 a ha)
  | false => exact k _ _ h3
theorem m_not {m : ME} (ih : MonE Φ G m) : MonE Φ G (.not m) := fun h k => ih h fun d σ' h => by refine Exists.elim h ?_; rintro b hq0; exact ⟨b, hq0.1, k _ _ hq0.2⟩
theorem m_cmp2 {o1 o2 : Op} {a b c : ME} (iha : MonE Φ G a) (ihb : MonE Φ G b) (ihc : MonE Φ G c) : MonE Φ G (.cmp2 o1 o2 a b c) := fun h k => iha h fun x σ₁ h => ihb h fun y σ₂ h => prim_mono h fun r σ₃ h => by
  obtain ⟨t, h1, h2⟩ := h
  refine ⟨t, h1, ?_⟩
  cases t with
  | true => exact ihc h2 fun z σ₄ h => prim_mono h k
  | false => exact k _ _ h2
theorem m_comp {m : Bool} {elt : ME} {x : Tg} {it : MI} {ifs : MEs} (ih : MonI Φ G it) : MonE Φ G (.comp m elt x it ifs) := fun h k => ih h fun xs u σ₁ h => by
  obtain ⟨h0, I, hq0⟩ := h
  refine ⟨h0, I, hq0.1, hq0.2.1, fun acc σ₂ h4 => ?_⟩
  have := hq0.2.2 acc σ₂ h4
  cases m with
  | true => exact fun a ha => k _ _ (this a ha)
  | false => exact k _ _ this
theorem m_frz {m : ME} (ih : MonE Φ G m) : MonE Φ G (.frz m) := fun h k => ih h fun d σ' h => by
  refine Exists.elim h fun a hx => ?_; obtain ⟨h1, ⟨xs, e, q⟩ | ⟨es, e, q⟩⟩ := hx
  · exact ⟨a, h1, .inl ⟨xs, e, k _ _ q⟩⟩
  · exact ⟨a, h1, .inr ⟨es, e, k _ _ q⟩⟩
theorem m_and {m m2 : ME} {ms : MEs} (ih0 : MonE Φ G m) (ih : MonA Φ G (.cons m2 ms)) : MonA Φ G (.cons m (.cons m2 ms)) := fun h k => ih0 h fun d σ' h => by
  refine Exists.elim h ?_; rintro b hq0
  refine ⟨b, hq0.1, ?_⟩
  cases b with
  | true => exact ih hq0.2 k
  | false => exact k _ _ hq0.2
theorem m_or {m m2 : ME} {ms : MEs} (ih0 : MonE Φ G m) (ih : MonO Φ G (.cons m2 ms)) : MonO Φ G (.cons m (.cons m2 ms)) := fun h k => ih0 h fun d σ' h => by
  refine Exists.elim h ?_; rintro b hq0
  refine ⟨b, hq0.1, ?_⟩
  cases b with
  | false => exact ih hq0.2 k
  | true => exact k _ _ hq0.2
theorem it_mono {i : Nat} {vs : List V} {Q Q' : List V → List V → View → Prop} {σ : View} (h : itWp i vs Q σ) (k : ∀ xs us σ', Q xs us σ' → Q' xs us σ') : itWp i vs Q' σ := by refine Exists.elim h ?_; rintro xs hq0; exact ⟨xs, hq0.1, k _ _ _ hq0.2⟩
mutual
theorem mon_e (hΦ : SpecMono Φ) : ∀ m : ME, MonE Φ G m
  | .var _ => m_var
  | .lit _ => fun h k => k _ _ h
  | .gcon _ => fun h k => k _ _ h
  | .op _ args => m_op (mon_es hΦ args).1
  | .meth _ b args => m_meth (mon_e hΦ b) (mon_es hΦ args).1
  | .dict _ _ vs => m_dict (mon_es hΦ vs).1
  | .and es => (mon_es hΦ es).2.1
  | .or es => (mon_es hΦ es).2.2
  | .not m => m_not (mon_e hΦ m)
  | .cmp2 _ _ a b c => m_cmp2 (mon_e hΦ a) (mon_e hΦ b) (mon_e hΦ c)
  | .call _ args => fun h k => (mon_es hΦ args).1 h fun vs σ' h' => hΦ _ _ _ _ _ h' k
  | .comp _ _ _ it _ => m_comp (mon_i hΦ it)
  | .frz m => m_frz (mon_e hΦ m)
theorem mon_es (hΦ : SpecMono Φ) : ∀ ms : MEs, MonEs Φ G ms ∧ MonA Φ G ms ∧ MonO Φ G ms
  | .nil => ⟨fun h k => k _ _ h, fun h _ => h.elim, fun h _ => h.elim⟩
  | .cons m .nil => have a := @mon_e hΦ m; ⟨fun h k => a h fun d σ' h' => k _ _ h', fun h k => a h k, fun h k => a h k⟩
  | .cons m (.cons m2 ms) => have a := @mon_e hΦ m; have b := mon_es hΦ (.cons m2 ms); ⟨fun h k => a h fun d σ' h' => b.1 h' fun vs σ'' h'' => k _ _ h'', m_and a b.2.1, m_or a b.2.2⟩
theorem mon_i (hΦ : SpecMono Φ) : ∀ it : MI, MonI Φ G it
  | .seq m => fun h k => mon_e hΦ m h fun _ _ h => it_mono h k
  | .range ms => fun h k => (mon_es hΦ ms).1 h fun _ _ h => it_mono h k
  | .enum ms => fun h k => (mon_es hΦ ms).1 h fun _ _ h => it_mono h k
  | .rev ms => fun h k => (mon_es hΦ ms).1 h fun _ _ h => it_mono h k
end
theorem ewp_mono (hΦ : SpecMono Φ) (m : ME) {ls : Ls} {Q Q' : Post} {σ : View} (h : ewp Φ G ls m Q σ) (k : ∀ d σ', Q d σ' → Q' d σ') : ewp Φ G ls m Q' σ := mon_e hΦ m h k
theorem ewps_mono (hΦ : SpecMono Φ) (ms : MEs) {ls : Ls} {Q Q' : List V → View → Prop} {σ : View} (h : ewps Φ G ls ms Q σ) (k : ∀ vs σ', Q vs σ' → Q' vs σ') : ewps Φ G ls ms Q' σ := (mon_es hΦ ms).1 h k
theorem ewpI_mono (hΦ : SpecMono Φ) (it : MI) {ls : Ls} {Q Q' : List V → List V → View → Prop} {σ : View} (h : ewpI Φ G ls it Q σ) (k : ∀ xs us σ', Q xs us σ' → Q' xs us σ') : ewpI Φ G ls it Q' σ := mon_i hΦ it h k
end
end Mine
end

section

open PySem PyProof.Rows
set_option linter.unusedVariables false
set_option maxHeartbeats 8000000
namespace Mine
section
variable {P : Pg} {Φ : Spec} {Gc : Nat → V}

theorem callWith_argsW {C : Cx} {ls : Ls} {σ : View} {s : Shared} {pos : Pos} {f : Value} {args : List Expr} {K : List Value → View → Shared → Prop} {POST : Value → Shared → Prop} (hk : (∃ id, f = .builtin id) ∨ ∃ T, f = .type T) (hn : args.isEmpty = false) (G : Good C σ ls s)
    (h : Ev C ls args K σ s) (hK : ∀ vs σ' s', Good C σ' ls s' → Step C.own s.heap σ s'.heap σ' → K vs σ' s' → wpAny (model C.W.prog C.W.w) C.A (call f vs) POST (fun _ _ => False) s') :
    wpAny (model C.W.prog C.W.w) C.A (callWith pos f [] (args.map fun e => (false, eval e C.env)) []) POST (fun _ _ => False) s := by
  have hs := spliced_ev G h
  have hsp : wpAny (model C.W.prog C.W.w) C.A (spliced (args.map fun e => (false, eval e C.env))) (fun vs s₁ => wpAny (model C.W.prog C.W.w) C.A (call f ([] ++ vs)) POST (fun _ _ => False) s₁) (fun _ _ => False) s :=
    wpAny_mono hs (fun vs s₁ hx => by obtain ⟨σ₁, G₁, S₁, h₁⟩ := hx; exact hK vs σ₁ s₁ G₁ S₁ h₁) fun _ _ x => x
  have hp : (args.map fun e => ((false : Bool), eval e C.env)).any (·.1) = false := by simp
  cases args with
  | nil => exact ff2 hn
  | cons e es =>
    have hev : wpAny (model C.W.prog C.W.w) C.A (evalArgs f true ((e :: es).map fun e => ((false : Bool), eval e C.env)) []) (fun a s₁ => wpAny (model C.W.prog C.W.w) C.A (call f ([] ++ a.pos) a.kw) POST (fun _ _ => False) s₁) (fun _ _ => False) s :=
      PySem.Calls.evalArgs_plain hsp
    rcases hk with ⟨id, rfl⟩ | ⟨T, rfl⟩
    · exact PySem.Calls.callWith_builtin hp hev
    · exact PyProof.Rows.callWith_type hp hev
theorem tests_false (env : Env) : ∀ (r : List Expr), (forIn r false fun c r => if r = true then do let ok ← isTrue c env (eval c env); pure (ForInStep.yield ok) else pure (ForInStep.yield r) : Sem Bool) = pure false
  | [] => rfl
  | e :: r => by
    rw [List.forIn_cons]
    simp only [Bool.false_eq_true, if_false, pure_bind]
    exact tests_false env r
theorem testsT_cons (e : Expr) (r : List Expr) (env : Env) : testsT (e :: r) env = (do let ok ← isTrue e env (eval e env); if ok = true then testsT r env else pure false) := by
  unfold testsT
  rw [List.forIn_cons]
  simp only [if_true, bind_assoc, pure_bind]
  congr 1
  funext ok
  cases ok
  · skip; exact tests_false env r
  · rfl

theorem isinst_types {S : Sc} {o : Op} {e : Expr} {es : List Expr} (h : shp S o e = some es) : ∀ t, o = .isinst t → t ∈ types := by
  rintro t rfl
  cases shp_inv h with
  | bin _ _ _ _ h1 => exact nn h1
  | cmp _ _ _ _ h1 _ => exact nn h1
  | inst f p t' x y py pos ho hc => cases ho; exact hc.2.2.2.2.1
  | call _ _ _ _ _ _ h1 _ => exact nn h1
  | neg _ _ h1 => cases h1
  | sl11 _ _ _ _ _ h1 => cases h1
  | sl10 _ _ _ _ h1 => cases h1
  | sl01 _ _ _ _ h1 => cases h1
  | item _ _ _ h1 => cases h1
  | tup _ _ _ h1 _ => cases h1
  | lst _ _ h1 _ => rcases h1 with h1 | h1 <;> cases h1
theorem mshp_isinst {o : Op} {e b : Expr} {es : List Expr} (h : mshp o e = some (b, es)) : ∀ t, o = .isinst t → t ∈ types := by
  rintro t rfl
  refine Exists.elim (mshp_inv h) fun name hx => ?_; obtain ⟨apos, pos, n, T, id, hq0⟩ := hx
  exact nn hq0.2.1

noncomputable def SndE (P : Pg) (Φ : Spec) (Gc : Nat → V) (m : ME) : Prop := ∀ {C : Cx} {S : Sc} {ls : Ls} {σ : View} {s : Shared} {e : Expr} {Q : Post}, Sit C S P Φ Gc → agE P S m e = true → Good C σ ls s → ewp Φ Gc ls m Q σ → TrE C ls (eval e C.env) (RV C Q) σ s
noncomputable def SndT (P : Pg) (Φ : Spec) (Gc : Nat → V) (m : ME) : Prop := ∀ {C : Cx} {S : Sc} {ls : Ls} {σ : View} {s : Shared} {e : Expr} {Q : Bool → View → Prop}, Sit C S P Φ Gc → agE P S m e = true → Good C σ ls s → ewp Φ Gc ls m (fun d σ' => ∃ b, truthV d = some b ∧ Q b σ') σ → TrE C ls (isTrue e C.env (eval e C.env)) (fun b σ' _ => Q b σ') σ s
noncomputable def SndEs (P : Pg) (Φ : Spec) (Gc : Nat → V) (ms : MEs) : Prop := ∀ {C : Cx} {S : Sc} {ls : Ls} {σ : View} {s : Shared} {es : List Expr} {pre : List Value} {xs : List V} {Q : List V → View → Prop}, Sit C S P Φ Gc → agEs P S ms es = true → Good C σ ls s → Reals s.heap (C.D σ) pre xs → ewps Φ Gc ls ms (fun ys σ' => Q (xs ++ ys) σ') σ →
    Ev C ls es (fun vs σ' s' => Good C σ' ls s' ∧ ∃ zs, Reals s'.heap (C.D σ') (pre ++ vs) zs ∧ Q zs σ') σ s
noncomputable def SndAnd (P : Pg) (Φ : Spec) (Gc : Nat → V) (ms : MEs) : Prop := ∀ {C : Cx} {S : Sc} {ls : Ls} {σ : View} {s : Shared} {es : List Expr} {pos : Pos} {Q : Post}, Sit C S P Φ Gc → agEs P S ms es = true → Good C σ ls s → ewpAnd Φ Gc ls ms Q σ → TrE C ls (boolOp pos .And (evalEach es C.env)) (RV C Q) σ s
noncomputable def SndOr (P : Pg) (Φ : Spec) (Gc : Nat → V) (ms : MEs) : Prop := ∀ {C : Cx} {S : Sc} {ls : Ls} {σ : View} {s : Shared} {es : List Expr} {pos : Pos} {Q : Post}, Sit C S P Φ Gc → agEs P S ms es = true → Good C σ ls s → ewpOr Φ Gc ls ms Q σ → TrE C ls (boolOp pos .Or (evalEach es C.env)) (RV C Q) σ s
noncomputable def SndTand (P : Pg) (Φ : Spec) (Gc : Nat → V) (ms : MEs) : Prop := ∀ {C : Cx} {S : Sc} {ls : Ls} {σ : View} {s : Shared} {es : List Expr} {Q : Bool → View → Prop}, Sit C S P Φ Gc → agEs P S ms es = true → Good C σ ls s → ewpAnd Φ Gc ls ms (fun d σ' => ∃ b, truthV d = some b ∧ Q b σ') σ → TrE C ls (allTrue .And es C.env) (fun b σ' _ => Q b σ') σ s
noncomputable def SndTor (P : Pg) (Φ : Spec) (Gc : Nat → V) (ms : MEs) : Prop := ∀ {C : Cx} {S : Sc} {ls : Ls} {σ : View} {s : Shared} {es : List Expr} {Q : Bool → View → Prop}, Sit C S P Φ Gc → agEs P S ms es = true → Good C σ ls s → ewpOr Φ Gc ls ms (fun d σ' => ∃ b, truthV d = some b ∧ Q b σ') σ → TrE C ls (allTrue .Or es C.env) (fun b σ' _ => Q b σ') σ s
noncomputable def SndIfs (P : Pg) (Φ : Spec) (Gc : Nat → V) (ms : MEs) : Prop := ∀ {C : Cx} {S : Sc} {ls : Ls} {σ : View} {s : Shared} {es : List Expr} {Q : Bool → View → Prop}, Sit C S P Φ Gc → agEs P S ms es = true → Good C σ ls s → ewpIfs Φ Gc ls ms Q σ → TrE C ls (testsT es C.env) (fun b σ' _ => Q b σ') σ s
noncomputable def SndI (P : Pg) (Φ : Spec) (Gc : Nat → V) (it : MI) : Prop := ∀ {C : Cx} {S : Sc} {ls : Ls} {σ : View} {s : Shared} {e : Expr} {t : Tg} {tgt : Expr} {ys : List Str} {Q : List V → List V → View → Prop}, Sit C S P Φ Gc → agTg S t tgt = some ys → okI t it = true → agI P S it e = true → Good C σ ls s → ewpI Φ Gc ls it Q σ → SrcAt C ls t tgt e Q σ s
theorem c_e_var {i : Nat}  : SndE P Φ Gc (.var i) := by
    intro C S ls σ s e Q T h G hw
    replace h := ag_var h; obtain ⟨x, p, rfl, h⟩ := h
    simp only [Bool.and_eq_true, beq_iff_eq] at h
    exact tr_var T G h.1 h.2 hw
theorem c_e_lit {d : V}  : SndE P Φ Gc (.lit d) := by
    intro C S ls σ s e Q T h G hw
    replace h := ag_lit h; obtain ⟨c, k, p, rfl, h⟩ := h
    exact tr_lit G h hw
theorem c_e_gcon {k : Nat}  : SndE P Φ Gc (.gcon k) := by
    intro C S ls σ s e Q T h G hw
    replace h := ag_gcon h; obtain ⟨x, p, rfl, h⟩ := h
    simp only [Bool.and_eq_true, beq_iff_eq] at h
    obtain ⟨v, hq0⟩ := T.lnk.gc k _ h.1
    exact load_global T.of h.2 G T.R.ok hq0.1 ⟨σ, G, Step.refl _ _ _, _, hq0.2 _ _, hw⟩
theorem c_e_op {o : Op} {args : MEs} (ih0 : SndEs P Φ Gc args) : SndE P Φ Gc (.op o args) := by
    intro C S ls σ s e Q T h G hw
    replace h := ag_op h; refine Exists.elim h fun es hx => ?_; obtain ⟨hs, h⟩ := hx
    refine shp_sound T.R T.lnk.blt T.of hs G (Ev.mono (ih0 (pre := []) (xs := []) (Q := fun zs σ' => prim o zs Q σ') T h G .nil hw) ?_)
    rintro vs σ' s' ⟨G', zs, rs, hp⟩ u v
    exact prim_sound T.R G' u v rs hp (isinst_types hs)
theorem c_e_meth {o : Op} {b : ME} {args : MEs} (ih0 : SndE P Φ Gc b) (ih1 : SndEs P Φ Gc args) : SndE P Φ Gc (.meth o b args) := by
    intro C S ls σ s e Q T h G hw
    replace h := ag_meth h; refine Exists.elim h fun b' hx => ?_; obtain ⟨es, hs, h⟩ := hx
    simp only [Bool.and_eq_true] at h
    refine mshp_sound T.R hs (TrE.mono (ih0 T h.1 G hw) ?_)
    rintro ov σ₁ s₁ G₁ _ ⟨x, r, hok, hw₁⟩
    refine ⟨x, r, hok, ?_⟩
    refine Ev.mono (ih1 (pre := [ov]) (xs := [x]) (Q := fun zs σ' => prim o zs Q σ') T h.2 G₁ (.cons r .nil) hw₁) ?_
    rintro vs σ' s' ⟨G', zs, rs, hp⟩ u v
    exact prim_sound T.R G' u v rs hp (mshp_isinst hs)
theorem c_e_dict {m : Bool} {ks : List Int} {vs : MEs}  : SndE P Φ Gc (.dict m ks vs) := by
    intro C S ls σ s e Q T h G hw
    replace h := ag_dict h; obtain ⟨p, rfl, rfl, rfl⟩ := h
    exact tr_dict G T.R.ok (And.right (And.right hw))
theorem c_e_and {es : MEs} (ih0 : SndAnd P Φ Gc es) : SndE P Φ Gc (.and es) := by
    intro C S ls σ s e Q T h G hw
    replace h := ag_and h; obtain ⟨vs, pos, rfl, h⟩ := h
    exact ih0 (pos := pos) T h G hw
theorem c_e_or {es : MEs} (ih0 : SndOr P Φ Gc es) : SndE P Φ Gc (.or es) := by
    intro C S ls σ s e Q T h G hw
    replace h := ag_or h; obtain ⟨vs, pos, rfl, h⟩ := h
    exact ih0 (pos := pos) T h G hw
theorem c_e_not {m : ME} (ih0 : SndE P Φ Gc m) : SndE P Φ Gc (.not m) := by
    intro C S ls σ s e Q T h G hw
    replace h := ag_not h; obtain ⟨x, pos, rfl, h⟩ := h
    have e : eval (.UnaryOp .Not x pos) C.env = (do let v ← eval x C.env; standAt pos; holding [v] (unaryOp .Not v)) := rfl
    skip
    refine TrE.bind (TrE.mono (ih0 T h G hw) ?_)
    rintro v σ' s' G' _ ⟨d, r, b, hb, q⟩
    refine TrE.bind (TrE.standAt G' (TrE.holding ?_))
    have e2 : unaryOp .Not v = holding [v] (do let t ← truthy v; pure (.bool (!t))) := rfl
    refine e2 ▸ ?_
    exact TrE.holding (TrE.bind (tr_truthy G' r hb (TrE.pure G' ⟨_, .bool _, q⟩)))
/-- the first comparison of a chain -/
theorem cmp2_first {o : Op} {op : CmpOp} {a b : ME} (iha : SndE P Φ Gc a) (ihb : SndE P Φ Gc b) {C : Cx} {S : Sc} {ls : Ls} {σ : View} {s : Shared} {l r1 : Expr} {Q : V → V → Bool → View → Prop} (T : Sit C S P Φ Gc) (hl : agE P S a l = true) (hr : agE P S b r1 = true) (ho : cmpTok o = some op) (G : Good C σ ls s)
    (hw : ewp Φ Gc ls a (fun x σ₁ => ewp Φ Gc ls b (fun y σ₂ => prim o [x, y] (fun r σ₃ => ∃ t, truthV r = some t ∧ Q y r t σ₃) σ₂) σ₁) σ)
    {K : Value → Value → Sem Value → Shared → Prop} {R : Value → Value → Bool → Shared → Prop}
    (hR : ∀ bv cv y r t σ₃ s₃, Good C σ₃ ls s₃ → Step C.own s.heap σ s₃.heap σ₃ → Real s₃.heap (C.D σ₃) bv y → Real s₃.heap (C.D σ₃) cv r → truthV r = some t → Q y r t σ₃ → R bv cv t s₃) :
    wpAny (model C.W.prog C.W.w) C.A (eval l C.env) (fun av s₁ => wpAny (model C.W.prog C.W.w) C.A (eval r1 C.env) (fun bv s₂ => wpAny (model C.W.prog C.W.w) C.A (compareOp op av bv) (fun cv s₃ => wpAny (model C.W.prog C.W.w) C.A (truthy cv) (fun t s₄ => R bv cv t s₄) (fun _ _ => False) s₃) (fun _ _ => False) s₂) (fun _ _ => False) s₁) (fun _ _ => False) s := by
    refine wpAny_mono (iha T hl G hw) ?_ fun _ _ x => x
    rintro av s₁ ⟨σ₁, G₁, S₁, x, rx, hw₁⟩
    refine wpAny_mono (ihb T hr G₁ hw₁) ?_ fun _ _ x => x
    rintro bv s₂ ⟨σ₂, G₂, S₂, y, ry, hw₂⟩
    have p1 := prim_sound T.R G₂ l r1 (.cons (rx.step G₁ S₂) (.cons ry .nil)) hw₂ (by rintro t rfl; exact nn ho)
    rw [opT_cmp ho] at p1
    refine wpAny_mono p1 ?_ fun _ _ x => x
    rintro cv s₃ ⟨σ₃, G₃, S₃, r, rr, t, ht, hq⟩
    refine wpAny_mono (tr_truthy G₃ rr ht (Q := fun b σ' s' => b = t ∧ σ' = σ₃ ∧ s' = s₃) ⟨rfl, rfl, rfl⟩) ?_ fun _ _ x => x
    rintro t' s₄ ⟨σ₄, _, _, rfl, rfl, rfl⟩
    exact hR bv cv y r _ _ _ G₃ ((S₁.trans S₂).trans S₃) (ry.step G₂ S₃) rr ht hq
theorem last_marks {op1 op2 : CmpOp} {r1 r2 : Expr} (h : notSet r2 = true) : lastMarks [op1, op2] [r1, r2] = false := notSet_marks h
theorem c_e_cmp2 {o1 o2 : Op} {a b c : ME} (iha : SndE P Φ Gc a) (ihb : SndE P Φ Gc b) (ihc : SndE P Φ Gc c) : SndE P Φ Gc (.cmp2 o1 o2 a b c) := by
    intro C S ls σ s e Q T h G hw
    replace h := ag_cmp2 h; obtain ⟨l, op1, op2, r1, r2, pos, rfl, h⟩ := h
    simp only [Bool.and_eq_true, decide_eq_true_eq] at h
    obtain ⟨⟨⟨⟨⟨h1, h2⟩, h3⟩, h4⟩, h5⟩, h6⟩ := h
    refine Compare_chain ?_ (last_marks h3)
    refine wpAny_mono (cmp2_first iha ihb T h4 h5 h1 G (Q := fun y r t σ₃ => if t = true then ewp Φ Gc ls c (fun z σ₄ => prim o2 [y, z] Q σ₄) σ₃ else Q r σ₃) hw
      (R := fun bv cv t s₃ => if t then wpAny (model C.W.prog C.W.w) C.A (compareChain pos bv [op2] [eval r2 C.env]) (EOut C ls (RV C Q) s.heap σ) (fun _ _ => False) s₃ else EOut C ls (RV C Q) s.heap σ cv s₃) (K := fun _ _ _ _ => True) ?_) (fun av s₁ h => chain_link h) fun _ _ x => x
    intro bv cv y r t σ₃ s₃ G₃ S₃ ry rr ht hq
    cases t with
    | false => exact ⟨σ₃, G₃, S₃, r, rr, hq⟩
    | true =>
      refine chain_last (wpAny_mono (ihc T h6 G₃ hq) ?_ fun _ _ x => x)
      rintro zv s₅ ⟨σ₅, G₅, S₅, z, rz, hw₅⟩
      have p2 := prim_sound T.R G₅ l r2 (.cons (ry.step G₃ S₅) (.cons rz .nil)) hw₅ (by rintro t rfl; exact nn h2)
      rw [opT_cmp h2] at p2
      refine wpAny_mono p2 ?_ fun _ _ x => x
      rintro v s₆ ⟨σ₆, G₆, S₆, q⟩
      exact ⟨σ₆, G₆, (S₃.trans S₅).trans S₆, q⟩
theorem c_t_cmp2 {o1 o2 : Op} {a b c : ME} (iha : SndE P Φ Gc a) (ihb : SndE P Φ Gc b) (ihc : SndE P Φ Gc c) : SndT P Φ Gc (.cmp2 o1 o2 a b c) := by
    intro C S ls σ s e Q T h G hw
    replace h := ag_cmp2 h; obtain ⟨l, op1, op2, r1, r2, pos, rfl, h⟩ := h
    simp only [Bool.and_eq_true, decide_eq_true_eq] at h
    obtain ⟨⟨⟨⟨⟨h1, h2⟩, h3⟩, h4⟩, h5⟩, h6⟩ := h
    refine isTrue_chain ?_ (last_marks h3)
    refine wpAny_mono (cmp2_first iha ihb T h4 h5 h1 G (Q := fun y r t σ₃ => if t = true then ewp Φ Gc ls c (fun z σ₄ => prim o2 [y, z] (fun d σ' => ∃ b, truthV d = some b ∧ Q b σ') σ₄) σ₃ else ∃ b, truthV r = some b ∧ Q b σ₃) hw
      (R := fun bv cv t s₃ => if t then wpAny (model C.W.prog C.W.w) C.A (testChain pos bv [op2] [eval r2 C.env]) (EOut C ls (fun b σ' _ => Q b σ') s.heap σ) (fun _ _ => False) s₃ else EOut C ls (fun b σ' _ => Q b σ') s.heap σ false s₃) (K := fun _ _ _ _ => True) ?_) (fun av s₁ h => test_link h) fun _ _ x => x
    intro bv cv y r t σ₃ s₃ G₃ S₃ ry rr ht hq
    cases t with
    | false =>
      obtain ⟨b, hb, q⟩ := hq
      obtain rfl := Option.some.inj (ht.symm.trans hb)
      exact ⟨σ₃, G₃, S₃, q⟩
    | true =>
      refine test_last (wpAny_mono (ihc T h6 G₃ hq) ?_ fun _ _ x => x)
      rintro zv s₅ ⟨σ₅, G₅, S₅, z, rz, hw₅⟩
      have p2 := prim_sound T.R G₅ l r2 (.cons (ry.step G₃ S₅) (.cons rz .nil)) hw₅ (by rintro t rfl; exact nn h2)
      rw [opT_cmp h2] at p2
      refine wpAny_mono p2 ?_ fun _ _ x => x
      rintro v s₆ ⟨σ₆, G₆, S₆, d, rd, b, hb, q⟩
      refine wpAny_mono (tr_truthy G₆ rd hb (Q := fun b σ' _ => Q b σ') q) ?_ fun _ _ x => x
      rintro b' s₇ ⟨σ₇, G₇, S₇, q⟩
      exact ⟨σ₇, G₇, ((S₃.trans S₅).trans S₆).trans S₇, q⟩
theorem c_e_call {f : Nat} {args : MEs} (ih0 : SndEs P Φ Gc args) : SndE P Φ Gc (.call f args) := by
    intro C S ls σ s e Q T h G hw
    replace h := ag_call h; obtain ⟨g, p, as, pos, rfl, h⟩ := h
    simp only [Bool.and_eq_true, beq_iff_eq, Bool.not_eq_true'] at h
    obtain ⟨⟨⟨⟨h1, h2⟩, h3⟩, h4⟩, h5⟩ := h
    refine Exists.elim (T.lnk.fn f g h1) fun a hx => ?_; obtain ⟨o, fd, hq0⟩ := hx
    refine tr_call h3 (fun Q' hq => load_global T.of h2 G T.R.ok hq0.1 hq) (callWith_fn T h1 h4 G hq0.1 ?_)
    exact ih0 (pre := []) (xs := []) T h5 G .nil hw
theorem tg_some {S : Sc} {x : Tg} {tg : Expr} {scope : Scope} (h : (match agTg S x tg with | some ys => compOk S scope ys | none => false) = true) : ∃ ys, agTg S x tg = some ys ∧ compOk S scope ys = true := by
    cases hq : agTg S x tg with
    | none => rw [hq] at h; exact ff h
    | some ys => rw [hq] at h; exact ⟨ys, rfl, h⟩
theorem comp_q {elt : ME} {x : Tg} {ifs : MEs} (ih1 : SndIfs P Φ Gc ifs) (ih2 : SndE P Φ Gc elt) {C : Cx} {S : Sc} {ls : Ls} (T : Sit C S P Φ Gc) {scope : Scope} {fs : List Expr} {el : Expr} {fin : List V → View → List V → View → Prop} (hk : C.env.scope.kind = .function) (h5 : agEs P (S.comp scope) ifs fs = true) (h6 : agE P (S.comp scope) elt el = true) (xs us : List V) (σ₁ : View)
    (h : xs.length ≤ big ∧ ∃ I : Nat → List V → View → Prop, I 0 [] (lockV σ₁ us) ∧
      (∀ k v acc σ₂, xs[k]? = some v → I k acc σ₂ → ewpIfs Φ Gc (x.up v ls) ifs (fun b σ₃ => if b then ewp Φ Gc (x.up v ls) elt (fun d σ₄ => I (k + 1) (acc ++ [d]) σ₄) σ₃ else I (k + 1) acc σ₃) σ₂) ∧
      (∀ acc σ₂, I xs.length acc σ₂ → fin us σ₁ acc σ₂)) : CompQ C ls scope x el fs fin xs us σ₁ := by
    obtain ⟨hbig, J, hq0⟩ := h
    refine .mk J hbig hq0.1 (fun cl L a wr k v acc σ₂ s₂ G₂ hv hJ₂ => ?_) hq0.2.2
    have T' : Sit (C.comp scope cl L a wr) (S.comp scope) P Φ Gc := T.comp hk
    refine TrE.mono (ih1 T' h5 G₂ (hq0.2.1 k v acc σ₂ hv hJ₂)) fun ok σ₃ s₃ G₃ _ h₃ => ?_
    cases ok with
    | false => exact h₃
    | true => exact ih2 T' h6 G₃ h₃
theorem c_e_comp {m : Bool} {elt : ME} {x : Tg} {it : MI} {ifs : MEs} (ih0 : SndI P Φ Gc it) (ih1 : SndIfs P Φ Gc ifs) (ih2 : SndE P Φ Gc elt) : SndE P Φ Gc (.comp m elt x it ifs) := by
    intro C S ls σ s e Q T h G hw
    replace h := ag_comp h; obtain ⟨el, tg, iter, fs, scope, pos, rfl, h⟩ := h
    simp only [Bool.and_eq_true] at h
    obtain ⟨⟨⟨⟨⟨h1, h2⟩, h3⟩, h4⟩, h5⟩, h6⟩ := h
    refine Exists.elim (tg_some h1) ?_; rintro ys hq0
    exact comp_value (m := m) T G hq0.2 hq0.1 h3 ((ih0 T hq0.1 h2 h4 G hw).mono (comp_q ih1 ih2 T G.fr.kind h5 h6))
theorem c_e_frz {m : ME} (ih0 : SndE P Φ Gc m) : SndE P Φ Gc (.frz m) := by
    intro C S ls σ s e Q T h G hw
    have h : (agE P S m e && tplain e) = true := h
    simp only [Bool.and_eq_true] at h
    refine wpAny_mono (ih0 T h.1 G hw) (?_) fun _ _ x => x
    rintro v s' ⟨σ', G', S', d, r, a, ha, hq⟩
    subst ha
    obtain rfl := r.ref_i
    rcases hq with ⟨xs, e, q⟩ | ⟨es, e, q⟩
    · exact ⟨σ'.del a, G'.del, S'.trans (Step.del _ _ _ _), .lst xs, G'.freezeL e, q⟩
    · exact ⟨σ'.del a, G'.del, S'.trans (Step.del _ _ _ _), .dct es, G'.freezeD T.R.ok e, q⟩
theorem c_t_not {m : ME} (ih0 : SndT P Φ Gc m) : SndT P Φ Gc (.not m) := by
    intro C S ls σ s e Q T h G hw
    replace h := ag_not h; obtain ⟨x, pos, rfl, h⟩ := h
    have e : isTrue (.UnaryOp .Not x pos) C.env (eval (.UnaryOp .Not x pos) C.env) = (do let t ← isTrue x C.env (eval x C.env); pure (!t)) := rfl
    skip
    refine TrE.bind (TrE.mono (ih0 (Q := fun b σ' => Q (!b) σ') T h G ?_) fun b σ' s' G' _ q => TrE.pure G' q)
    refine ewp_mono T.lnk.mono m hw ?_
    rintro d σ' ⟨b, hb, b', hb', q⟩
    refine ⟨b, hb, ?_⟩
    simp only [truthV, Option.some.injEq] at hb'
    exact hb' ▸ q
theorem c_t_and {es : MEs} (ih0 : SndTand P Φ Gc es) : SndT P Φ Gc (.and es) := by
    intro C S ls σ s e Q T h G hw
    replace h := ag_and h; obtain ⟨vs, pos, rfl, h⟩ := h
    exact ih0 T h G hw
theorem c_t_or {es : MEs} (ih0 : SndTor P Φ Gc es) : SndT P Φ Gc (.or es) := by
    intro C S ls σ s e Q T h G hw
    replace h := ag_or h; obtain ⟨vs, pos, rfl, h⟩ := h
    exact ih0 T h G hw
theorem c_t_of {m : ME} (ih0 : SndE P Φ Gc m) (hp : ∀ {S : Sc} {e : Expr}, agE P S m e = true → tplain e = true) : SndT P Φ Gc m := by
    intro C S ls σ s e Q T h G hw
    refine tr_test_plain (hp h) (TrE.mono (ih0 T h G hw) fun v σ' s' _ _ x => ?_)
    obtain ⟨d, r, b, hq0⟩ := x
    exact ⟨d, b, r, hq0.1, hq0.2⟩
theorem c_t_var {i : Nat} (ih0 : SndE P Φ Gc (.var i)) : SndT P Φ Gc (.var i) := c_t_of ih0 fun h => by
    refine Exists.elim (ag_var h) fun x hx => ?_; obtain ⟨p, rfl, _⟩ := hx; rfl
theorem c_t_lit {d : V} (ih0 : SndE P Φ Gc (.lit d)) : SndT P Φ Gc (.lit d) := c_t_of ih0 fun h => by
    refine Exists.elim (ag_lit h) fun x hx => ?_; obtain ⟨k, p, rfl, _⟩ := hx; rfl
theorem c_t_gcon {k : Nat} (ih0 : SndE P Φ Gc (.gcon k)) : SndT P Φ Gc (.gcon k) := c_t_of ih0 fun h => by
    refine Exists.elim (ag_gcon h) fun x hx => ?_; obtain ⟨p, rfl, _⟩ := hx; rfl
theorem c_t_op {o : Op} {args : MEs} (ih0 : SndE P Φ Gc (.op o args)) : SndT P Φ Gc (.op o args) := c_t_of ih0 fun h => by
    refine Exists.elim (ag_op h) ?_; rintro es hq0; exact shp_tplain hq0.1
theorem c_t_meth {o : Op} {b : ME} {args : MEs} (ih0 : SndE P Φ Gc (.meth o b args)) : SndT P Φ Gc (.meth o b args) := c_t_of ih0 fun h => by
    refine Exists.elim (ag_meth h) fun b' hx => ?_; obtain ⟨es, hq0⟩ := hx; exact mshp_tplain hq0.1
theorem c_t_dict {m : Bool} {ks : List Int} {vs : MEs} (ih0 : SndE P Φ Gc (.dict m ks vs)) : SndT P Φ Gc (.dict m ks vs) := c_t_of ih0 fun h => by
    refine Exists.elim (ag_dict h) fun p hx => ?_; obtain ⟨rfl, _⟩ := hx; rfl
theorem c_t_call {f : Nat} {args : MEs} (ih0 : SndE P Φ Gc (.call f args)) : SndT P Φ Gc (.call f args) := c_t_of ih0 fun h => by
    refine Exists.elim (ag_call h) fun g hx => ?_; obtain ⟨p, as, pos, rfl, _⟩ := hx; rfl
theorem c_t_comp {m : Bool} {elt : ME} {x : Tg} {it : MI} {ifs : MEs} (ih0 : SndE P Φ Gc (.comp m elt x it ifs)) : SndT P Φ Gc (.comp m elt x it ifs) := c_t_of ih0 fun h => by
    refine Exists.elim (ag_comp h) fun el hx => ?_; obtain ⟨tg, iter, fs, scope, pos, rfl, _⟩ := hx; rfl
theorem c_t_frz {m : ME} (ih0 : SndE P Φ Gc (.frz m)) : SndT P Φ Gc (.frz m) := c_t_of ih0 fun h => (Bool.and_eq_true_iff.mp h).2
theorem okI_one {S : Sc} {it : MI} {t : Tg} {tgt : Expr} {ys : List Str} (hy : agTg S t tgt = some ys) (h : okI t it = true) (hn : ∀ ms, it ≠ .enum ms) : ∃ i y p, t = .one i ∧ tgt = .Name y p := by
    rcases agTg_inv hy with ⟨i, y, p, rfl, rfl, _⟩ | ⟨i, j, y, z, p, p', n1, pt, rfl, rfl, _⟩
    · exact ⟨i, y, p, rfl, rfl⟩
    · cases it with
      | enum ms => exact absurd rfl (hn ms)
      | seq _ => exact ff h
      | range _ => exact ff h
      | rev _ => exact ff h
theorem c_i_seq {m : ME} (ih0 : SndE P Φ Gc m) : SndI P Φ Gc (.seq m) := by
    intro C S ls σ s e t tgt ys Q T hy hk h G hw
    refine Exists.elim (okI_one hy hk (fun _ h => (by cases h))) fun i hx => ?_; obtain ⟨y, p, rfl, rfl⟩ := hx
    have h : agE P S m e = true := h
    refine wpAny_mono (ih0 T h G hw) (?_) fun _ _ x => x
    rintro v s₁ ⟨σ₁, G₁, S₁, d, rd, xs, hx, q⟩
    refine ⟨σ₁, s₁, [d], xs, G₁, S₁, fun K hK => ?_, q⟩
    exact it_value T.R G₁ rd hx fun o fp P St I st => hK _ _ _ s₁.toks fp P St I st (fun b o e => Heap.get?_push_of_some _ e) (by rw [Heap.size_push]; solve_by_elim (maxDepth := 2) [Nat.le_of_lt, Nat.le_trans, Nat.lt_of_lt_of_le, Nat.lt_of_le_of_lt, Nat.le_succ_of_le, Nat.lt_succ_of_le, Nat.le_of_succ_le, Nat.le_of_lt_succ, Nat.not_lt.mp, Nat.not_le.mp, Nat.le_add_right, Nat.le_add_left, Nat.sub_le])
theorem c_i_call {n : String} {k : Nat} {ms : MEs} (ih0 : SndEs P Φ Gc ms) {C : Cx} {S : Sc} {ls : Ls} {σ : View} {s : Shared} {e : Expr} {t : Tg} {tgt : Expr} {Q : List V → List V → View → Prop} (hn : n ∈ blts) (hT : ∃ ty, bval n = .type ty ∧ ∀ vs, srcT k vs = call (.type ty) vs)
    (src : ∀ {σ : View} {s : Shared} {vs : List Value} {us xs : List V}, Good C σ ls s → Reals s.heap (C.D σ) vs us → itXs k σ us = some xs → wpAny (model C.W.prog C.W.w) C.A (srcT k vs) (fun r s' => Src C tgt (rpOf t) s σ us xs r s') (fun _ _ => False) s)
    (T : Sit C S P Φ Gc) (h : (match iterArgs n S e with | some es => agEs P S ms es | none => false) = true) (G : Good C σ ls s) (hw : ewps Φ Gc ls ms (fun us σ' => itWp k us Q σ') σ) : SrcAt C ls t tgt e Q σ s := by
    replace h := ag_iter h; obtain ⟨f, p, es, pos, rfl, hc, h⟩ := h
    obtain ⟨rfl, hq1⟩ := hc
    refine Exists.elim hT ?_; rintro ty hq0
    have e : eval (.Call (.Name (Str.ofString n) p) es [] pos) C.env = (do callWith pos (← eval (.Name (Str.ofString n) p) C.env) [] (backTo pos (starEach es C.env)) (backToKw pos (keywordEach [] C.env))) := rfl
    unfold SrcAt
    simp only [e, starEach_noStar hq1.2.1, backTo_noStar]
    refine wpAny_bind (load_blt T.of hq1.1 hn G T.R.ok T.lnk.blt ?_)
    refine hq0.1 ▸ ?_
    refine callWith_argsW (.inr ⟨_, rfl⟩) hq1.2.2 G (ih0 (pre := []) (xs := []) (Q := fun us σ' => itWp k us Q σ') T h G .nil hw) ?_
    rintro vs σ₁ s₁ G₁ S₁ ⟨_, us, rs, xs, hx, q⟩
    rw [← hq0.2]
    exact wpAny_mono (src G₁ rs hx) (fun r s' src => ⟨σ₁, s₁, us, xs, G₁, S₁, src, q⟩) fun _ _ x => x
theorem c_i_range {ms : MEs} (ih0 : SndEs P Φ Gc ms) : SndI P Φ Gc (.range ms) := by
    intro C S ls σ s e t tgt ys Q T hy hk h G hw
    refine Exists.elim (okI_one hy hk (fun _ h => (by cases h))) fun i hx => ?_; obtain ⟨y, p, rfl, rfl⟩ := hx
    exact c_i_call (n := "range") (k := 1) ih0 (by decide) ⟨_, rfl, fun _ => rfl⟩ (fun G rs hx => it_src T.R G rs hx) T h G hw
theorem c_i_rev {ms : MEs} (ih0 : SndEs P Φ Gc ms) : SndI P Φ Gc (.rev ms) := by
    intro C S ls σ s e t tgt ys Q T hy hk h G hw
    obtain ⟨i, y, p, rfl, rfl⟩ := okI_one hy hk (fun _ h => nomatch h)
    exact c_i_call (n := "reversed") (k := 3) ih0 (by decide) ⟨_, rfl, fun _ => rfl⟩ (fun G rs hx => it_rev T.R G rs hx) T h G hw
theorem c_i_enum {ms : MEs} (ih0 : SndEs P Φ Gc ms) : SndI P Φ Gc (.enum ms) := by
    intro C S ls σ s e t tgt ys Q T hy hk h G hw
    rcases agTg_inv hy with ⟨i, y, p, rfl, rfl, _⟩ | ⟨i, j, y, z, p, p', n1, pt, rfl, rfl, _⟩
    · exact ff hk
    · exact c_i_call (n := "enumerate") (k := 2) ih0 (by decide) ⟨_, rfl, fun _ => rfl⟩ (fun G rs hx => it_enum T.R G rs hx) T h G hw
theorem c_es_nil   : SndEs P Φ Gc .nil := by
    intro C S ls σ s es pre xs Q T h G rs hw
    obtain rfl := ag_nil h
    exact ⟨G, xs, by rw [List.append_nil]; exact rs, List.append_nil xs ▸ hw⟩
theorem c_es_cons {m : ME} {ms : MEs} (ih0 : SndE P Φ Gc m) (ih1 : SndEs P Φ Gc ms) : SndEs P Φ Gc (.cons m ms) := by
    intro C S ls σ s es pre xs Q T h G rs hw
    replace h := ag_cons h; obtain ⟨e, r, rfl, h⟩ := h
    simp only [Bool.and_eq_true] at h
    refine TrE.mono (ih0 T h.1 G hw) ?_
    rintro v σ' s' G' S' ⟨d, rd, hw'⟩
    refine Ev.mono (ih1 (pre := pre ++ [v]) (xs := xs ++ [d]) (Q := Q) T h.2 G' ((rs.step G S').append (.cons rd .nil)) ?_) fun vs σ'' s'' hx => by obtain ⟨G'', zs, rz, q⟩ := hx; exact ⟨G'', zs, by rw [List.append_assoc] at rz; exact rz, q⟩
    have e : (fun ys σ' => Q (xs ++ [d] ++ ys) σ') = fun ys σ' => Q (xs ++ d :: ys) σ' := by funext ys σ'; rw [List.append_assoc]; rfl
    exact e ▸ hw'
theorem c_and_nil   : SndAnd P Φ Gc .nil := by
    intro C S ls σ s es pos Q T h G hw
    exact hw.elim
theorem c_and_one {m : ME} (ih0 : SndE P Φ Gc m) : SndAnd P Φ Gc (.cons m .nil) := by
    intro C S ls σ s es pos Q T h G hw
    replace h := ag_cons h; obtain ⟨e, r, rfl, h⟩ := h
    simp only [Bool.and_eq_true] at h
    skip
    obtain rfl := ag_nil h.2
    exact ih0 T h.1 G hw
theorem c_and_more {m m2 : ME} {ms : MEs} (ih0 : SndE P Φ Gc m) (ih1 : SndAnd P Φ Gc (.cons m2 ms)) : SndAnd P Φ Gc (.cons m (.cons m2 ms)) := by
    intro C S ls σ s es pos Q T h G hw
    replace h := ag_cons h; obtain ⟨e, r, rfl, h⟩ := h
    simp only [Bool.and_eq_true] at h
    obtain ⟨h1, h2⟩ := h
    cases r with
    | nil => exact ff h2
    | cons e2 r =>
      have e : boolOp pos .And (evalEach (e :: e2 :: r) C.env) = (do
          let v ← eval e C.env
          standAt pos
          let t ← holding [v] (truthy v)
          match BoolOp.And, t with
          | .And, false | .Or, true => pure v
          | _, _ => boolOp pos .And (evalEach (e2 :: r) C.env)) := rfl
      skip
      refine TrE.bind (TrE.mono (ih0 T h1 G hw) ?_)
      rintro v σ' s' G' _ ⟨d, rd, b, hb, hw'⟩
      refine TrE.bind (TrE.standAt G' (TrE.bind (TrE.holding (tr_truthy G' rd hb ?_))))
      cases b with
      | false => exact TrE.pure G' ⟨d, rd, hw'⟩
      | true => exact ih1 T h2 G' hw'
theorem c_or_nil   : SndOr P Φ Gc .nil := by
    intro C S ls σ s es pos Q T h G hw
    exact hw.elim
theorem c_or_one {m : ME} (ih0 : SndE P Φ Gc m) : SndOr P Φ Gc (.cons m .nil) := by
    intro C S ls σ s es pos Q T h G hw
    replace h := ag_cons h; obtain ⟨e, r, rfl, h⟩ := h
    simp only [Bool.and_eq_true] at h
    skip
    obtain rfl := ag_nil h.2
    exact ih0 T h.1 G hw
theorem c_or_more {m m2 : ME} {ms : MEs} (ih0 : SndE P Φ Gc m) (ih1 : SndOr P Φ Gc (.cons m2 ms)) : SndOr P Φ Gc (.cons m (.cons m2 ms)) := by
    intro C S ls σ s es pos Q T h G hw
    replace h := ag_cons h; obtain ⟨e, r, rfl, h⟩ := h
    simp only [Bool.and_eq_true] at h
    obtain ⟨h1, h2⟩ := h
    cases r with
    | nil => exact ff h2
    | cons e2 r =>
      have e : boolOp pos .Or (evalEach (e :: e2 :: r) C.env) = (do
          let v ← eval e C.env
          standAt pos
          let t ← holding [v] (truthy v)
          match BoolOp.Or, t with
          | .And, false | .Or, true => pure v
          | _, _ => boolOp pos .Or (evalEach (e2 :: r) C.env)) := rfl
      skip
      refine TrE.bind (TrE.mono (ih0 T h1 G hw) ?_)
      rintro v σ' s' G' _ ⟨d, rd, b, hb, hw'⟩
      refine TrE.bind (TrE.standAt G' (TrE.bind (TrE.holding (tr_truthy G' rd hb ?_))))
      cases b with
      | true => exact TrE.pure G' ⟨d, rd, hw'⟩
      | false => exact ih1 T h2 G' hw'
theorem c_tand_nil   : SndTand P Φ Gc .nil := by
    intro C S ls σ s es Q T h G hw
    exact hw.elim
theorem c_tand_one {m : ME} (ih0 : SndT P Φ Gc m) : SndTand P Φ Gc (.cons m .nil) := by
    intro C S ls σ s es Q T h G hw
    replace h := ag_cons h; obtain ⟨e, r, rfl, h⟩ := h
    simp only [Bool.and_eq_true] at h
    skip
    obtain rfl := ag_nil h.2
    have e : allTrue .And [e] C.env = (do
        match BoolOp.And, ← isTrue e C.env (eval e C.env) with
        | .And, false => pure false
        | .Or, true => pure true
        | _, _ => allTrue .And [] C.env) := rfl
    skip
    refine TrE.bind (TrE.mono (ih0 T h.1 G hw) fun b σ' s' G' _ q => ?_)
    cases b with
    | false => exact TrE.pure G' q
    | true => exact TrE.pure G' q
theorem c_tand_more {m m2 : ME} {ms : MEs} (ih0 : SndT P Φ Gc m) (ih1 : SndTand P Φ Gc (.cons m2 ms)) : SndTand P Φ Gc (.cons m (.cons m2 ms)) := by
    intro C S ls σ s es Q T h G hw
    replace h := ag_cons h; obtain ⟨e, r, rfl, h⟩ := h
    simp only [Bool.and_eq_true] at h
    skip
    have e : allTrue .And (e :: r) C.env = (do
        match BoolOp.And, ← isTrue e C.env (eval e C.env) with
        | .And, false => pure false
        | .Or, true => pure true
        | _, _ => allTrue .And r C.env) := rfl
    skip
    refine TrE.bind (TrE.mono (ih0 (Q := fun b σ' => if b = true then ewpAnd Φ Gc ls (.cons m2 ms) (fun d σ' => ∃ b, truthV d = some b ∧ Q b σ') σ' else Q b σ') T h.1 G (ewp_mono T.lnk.mono m hw fun d σ' ⟨b, hb, hw'⟩ => ⟨b, hb, ?_⟩)) fun b σ' s' G' _ q => ?_)
    · cases b with
      | false => refine Exists.elim hw' ?_; rintro b' hq0; cases Eq.trans (Eq.symm hb) hq0.1; exact hq0.2
      | true => exact hw'
    · cases b with
      | false => exact TrE.pure G' q
      | true => exact ih1 T h.2 G' q
theorem c_tor_nil   : SndTor P Φ Gc .nil := by
    intro C S ls σ s es Q T h G hw
    exact hw.elim
theorem c_tor_one {m : ME} (ih0 : SndT P Φ Gc m) : SndTor P Φ Gc (.cons m .nil) := by
    intro C S ls σ s es Q T h G hw
    replace h := ag_cons h; obtain ⟨e, r, rfl, h⟩ := h
    simp only [Bool.and_eq_true] at h
    skip
    obtain rfl := ag_nil h.2
    have e : allTrue .Or [e] C.env = (do
        match BoolOp.Or, ← isTrue e C.env (eval e C.env) with
        | .And, false => pure false
        | .Or, true => pure true
        | _, _ => allTrue .Or [] C.env) := rfl
    skip
    refine TrE.bind (TrE.mono (ih0 T h.1 G hw) fun b σ' s' G' _ q => ?_)
    cases b with
    | false => exact TrE.pure G' q
    | true => exact TrE.pure G' q
theorem c_tor_more {m m2 : ME} {ms : MEs} (ih0 : SndT P Φ Gc m) (ih1 : SndTor P Φ Gc (.cons m2 ms)) : SndTor P Φ Gc (.cons m (.cons m2 ms)) := by
    intro C S ls σ s es Q T h G hw
    replace h := ag_cons h; obtain ⟨e, r, rfl, h⟩ := h
    simp only [Bool.and_eq_true] at h
    skip
    have e : allTrue .Or (e :: r) C.env = (do
        match BoolOp.Or, ← isTrue e C.env (eval e C.env) with
        | .And, false => pure false
        | .Or, true => pure true
        | _, _ => allTrue .Or r C.env) := rfl
    skip
    refine TrE.bind (TrE.mono (ih0 (Q := fun b σ' => if b = true then Q b σ' else ewpOr Φ Gc ls (.cons m2 ms) (fun d σ' => ∃ b, truthV d = some b ∧ Q b σ') σ') T h.1 G (ewp_mono T.lnk.mono m hw fun d σ' ⟨b, hb, hw'⟩ => ⟨b, hb, ?_⟩)) fun b σ' s' G' _ q => ?_)
    · cases b with
      | true => refine Exists.elim hw' ?_; rintro b' hq0; cases Eq.trans (Eq.symm hb) hq0.1; exact hq0.2
      | false => exact hw'
    · cases b with
      | true => exact TrE.pure G' q
      | false => exact ih1 T h.2 G' q
theorem c_ifs_nil   : SndIfs P Φ Gc .nil := by
    intro C S ls σ s es Q T h G hw
    obtain rfl := ag_nil h
    exact TrE.pure G hw
theorem c_ifs_cons {m : ME} {ms : MEs} (ih0 : SndT P Φ Gc m) (ih1 : SndIfs P Φ Gc ms) : SndIfs P Φ Gc (.cons m ms) := by
    intro C S ls σ s es Q T h G hw
    replace h := ag_cons h; obtain ⟨e, r, rfl, h⟩ := h
    simp only [Bool.and_eq_true] at h
    have e : testsT (e :: r) C.env = (do let ok ← isTrue e C.env (eval e C.env); if ok = true then testsT r C.env else pure false) := testsT_cons ..
    refine e ▸ ?_
    refine TrE.bind (TrE.mono (ih0 T h.1 G hw) fun b σ' s' G' _ q => ?_)
    cases b with
    | true => exact ih1 T h.2 G' q
    | false => exact TrE.pure G' q
mutual
theorem snd_et : ∀ m : ME, SndE P Φ Gc m ∧ SndT P Φ Gc m
  | .var i => have h : SndE P Φ Gc (.var i) := c_e_var; ⟨h, c_t_var h⟩
  | .lit d => have h : SndE P Φ Gc (.lit d) := c_e_lit; ⟨h, c_t_lit h⟩
  | .gcon k => have h : SndE P Φ Gc (.gcon k) := c_e_gcon; ⟨h, c_t_gcon h⟩
  | .op o args => have h : SndE P Φ Gc (.op o args) := c_e_op ((snd_ess args).1); ⟨h, c_t_op h⟩
  | .meth o b args => have h : SndE P Φ Gc (.meth o b args) := c_e_meth ((snd_et b).1) ((snd_ess args).1); ⟨h, c_t_meth h⟩
  | .dict m ks vs => have h : SndE P Φ Gc (.dict m ks vs) := c_e_dict; ⟨h, c_t_dict h⟩
  | .and es => have h : SndE P Φ Gc (.and es) := c_e_and ((snd_ess es).2.1); ⟨h, c_t_and ((snd_ess es).2.2.2.1)⟩
  | .or es => have h : SndE P Φ Gc (.or es) := c_e_or ((snd_ess es).2.2.1); ⟨h, c_t_or ((snd_ess es).2.2.2.2.1)⟩
  | .not m => have h : SndE P Φ Gc (.not m) := c_e_not ((snd_et m).1); ⟨h, c_t_not ((snd_et m).2)⟩
  | .cmp2 o1 o2 a b c => ⟨c_e_cmp2 (snd_et a).1 (snd_et b).1 (snd_et c).1, c_t_cmp2 (snd_et a).1 (snd_et b).1 (snd_et c).1⟩
  | .call f args => have h : SndE P Φ Gc (.call f args) := c_e_call ((snd_ess args).1); ⟨h, c_t_call h⟩
  | .comp m elt x it ifs => have h : SndE P Φ Gc (.comp m elt x it ifs) := c_e_comp (snd_ii it) ((snd_ess ifs).2.2.2.2.2) ((snd_et elt).1); ⟨h, c_t_comp h⟩
  | .frz m => have h : SndE P Φ Gc (.frz m) := c_e_frz ((snd_et m).1); ⟨h, c_t_frz h⟩
theorem snd_ess : ∀ ms : MEs, SndEs P Φ Gc ms ∧ SndAnd P Φ Gc ms ∧ SndOr P Φ Gc ms ∧ SndTand P Φ Gc ms ∧ SndTor P Φ Gc ms ∧ SndIfs P Φ Gc ms
  | .nil => ⟨c_es_nil, c_and_nil, c_or_nil, c_tand_nil, c_tor_nil, c_ifs_nil⟩
  | .cons m .nil => have a := snd_et m; have b := snd_ess .nil; ⟨c_es_cons a.1 b.1, c_and_one a.1, c_or_one a.1, c_tand_one a.2, c_tor_one a.2, c_ifs_cons a.2 b.2.2.2.2.2⟩
  | .cons m (.cons m2 ms) => have a := snd_et m; have b := snd_ess (.cons m2 ms); ⟨c_es_cons a.1 b.1, c_and_more a.1 b.2.1, c_or_more a.1 b.2.2.1, c_tand_more a.2 b.2.2.2.1, c_tor_more a.2 b.2.2.2.2.1, c_ifs_cons a.2 b.2.2.2.2.2⟩
theorem snd_ii : ∀ it : MI, SndI P Φ Gc it
  | .seq m => c_i_seq ((snd_et m).1)
  | .range ms => c_i_range ((snd_ess ms).1)
  | .enum ms => c_i_enum ((snd_ess ms).1)
  | .rev ms => c_i_rev ((snd_ess ms).1)
end
theorem snd_e : ∀ (m : ME) {C : Cx} {S : Sc} {ls : Ls} {σ : View} {s : Shared} {e : Expr} {Q : Post}, Sit C S P Φ Gc → agE P S m e = true → Good C σ ls s → ewp Φ Gc ls m Q σ → TrE C ls (eval e C.env) (RV C Q) σ s := fun x => (snd_et x).1
theorem snd_t : ∀ (m : ME) {C : Cx} {S : Sc} {ls : Ls} {σ : View} {s : Shared} {e : Expr} {Q : Bool → View → Prop}, Sit C S P Φ Gc → agE P S m e = true → Good C σ ls s → ewp Φ Gc ls m (fun d σ' => ∃ b, truthV d = some b ∧ Q b σ') σ → TrE C ls (isTrue e C.env (eval e C.env)) (fun b σ' _ => Q b σ') σ s := fun x => (snd_et x).2
theorem snd_i (it : MI) : SndI P Φ Gc it := snd_ii it
end
end Mine
end

section

open PySem PyProof.Rows
set_option linter.unusedVariables false
set_option maxHeartbeats 4000000
namespace Mine

noncomputable def storable (S : Sc) (x : Str) : Bool := S.names.lookup x == some .local || S.names.lookup x == some .cell
noncomputable def isComp : Expr → Bool
  | .ListComp _ _ _ _ => true
  | .SetComp _ _ _ _ => true
  | .DictComp _ _ _ _ _ => true
  | _ => false
noncomputable def swaps (S : Sc) (t : Str) (pt : Pos) : Expr → Bool
  | .ListComp _ _ scope p => S.names.lookup t == some .local && pt.line == p.line && !(scope.names.any fun (n, k) => n == t && (k == .local || k == .cell))
  | _ => false
noncomputable def isCompM : ME → Bool
  | .comp _ _ _ _ _ => true
  | _ => false

mutual
noncomputable def agS (P : Pg) (S : Sc) : MS → Stmt → Bool
  | .assign i m, st => match st with
    | .Assign [.Name x pt] e _ => S.vars[i]? == some x && storable S x && (isComp e == isCompM m) && agE P S m e
    | _ => false
  | .setSub o k m, st => match st with
    | .Assign [.Subscript b i _] e _ => !isComp e && agE P S o b && agE P S k i && agE P S m e
    | _ => false
  | .expr m, st => match st with
    | .Expr e _ => !isComp e && agE P S m e
    | _ => false
  | .ite t a b, st => match st with
    | .If e x y _ => agE P S t e && agSs P S a x && agSs P S b y
    | _ => false
  | .loop t b, st => match st with
    | .While e x [] _ => agE P S t e && agSs P S b x
    | _ => false
  | .for1 i it b, st => match st with
    | .For tg e body [] _ => (match agTg S i tg with | some ys => ys.all (storable S) | none => false) && okI i it && notSet e && agI P S it e && agSs P S b body
    | _ => false
  | .ret m, st => match st with
    | .Return (some e) _ => agE P S m e
    | _ => false
  | .freeze _, _ => false
noncomputable def agSs (P : Pg) (S : Sc) : MSs → List Stmt → Bool
  | .nil, ss => ss.isEmpty
  | .cons m r, ss => match m with
    | .freeze i => agSs P S r ss
    | m => match ss with
      | st :: rest => agS P S m st && agSs P S r rest
      | [] => false
end

structure SitS (C : Cx) (S : Sc) (P : Pg) (Φ : Spec) (Gc : Nat → V) : Prop extends Sit C S P Φ Gc where
  oc : ∀ x c, C.env.cells.lookup x = some c → C.own c

section
variable {P : Pg} {Φ : Spec} {Gc : Nat → V} {C : Cx} {S : Sc} {ls : Ls} {σ : View} {s : Shared}

theorem SitS.more (T : SitS C S P Φ Gc) {wr : List Addr} : SitS (C.more wr) S P Φ Gc := ⟨T.toSit.more, T.oc⟩

theorem storable_kind (hS : S.Of C) (T : ∀ x c, C.env.cells.lookup x = some c → C.own c) {x : Str} (h : storable S x = true) : C.env.kindOf x = some .local ∨ (C.env.kindOf x = some .cell ∧ ∀ c, C.env.cells.lookup x = some c → C.own c) := by
  unfold storable at h
  simp only [Bool.or_eq_true, beq_iff_eq] at h
  rw [kindOf_eq hS]
  exact h.imp id fun h => ⟨h, T x⟩
/-- the targets of a loop -/
theorem for_asg (T : SitS C S P Φ Gc) {t : Tg} {tgt : Expr} {ys : List Str} (hy : agTg S t tgt = some ys) (hs : ys.all (storable S) = true) {wr : List Addr} : Asg (C.more wr) tgt (rpOf t) t.up := by
  have hl : ∀ y ∈ ys, Stor (C.more wr) y := fun y hm => storable_kind T.more.of T.more.oc (List.all_eq_true.mp hs y hm)
  have hv : (C.more wr).vars = S.vars := T.of.vars
  rcases agTg_inv hy with ⟨i, y, p, rfl, rfl, rfl, h1⟩ | ⟨i, j, y, z, p, p', n1, pt, rfl, rfl, rfl, h1, h2⟩
  · exact asg1 ((hv ▸ h1)) (hl y (.head _))
  · exact asg2 T.R.hh ((hv ▸ h1)) (hl y (.head _)) ((hv ▸ h2)) (hl z (.tail _ (.head _)))
theorem fn_interactive (hk : C.env.scope.kind = .function) : interactive C.env = false := by dsimp only [interactive]; exact hk ▸ rfl
theorem swaps_plain {e : Expr} {t : Option Expr} {line : Nat} {env : Env} (h : isComp e = false) : swapsWith e t line env = pure false := by
  skip
  cases e <;> first | rfl | exact ff2 h

theorem tr_assign (T : SitS C S P Φ Gc) (G : Good C σ ls s) {i : Nat} {x : Str} {pt pos : Pos} {e : Expr} {Q : View → Ls → Prop} {R : Post} (hi : S.vars[i]? = some x) (hs : storable S x = true) (hsw : swapsWith e (some (.Name x pt)) pos.line C.env = pure false)
    (h : TrE C ls (eval e C.env) (RV C fun d σ' => Q σ' (ls.set i d)) σ s) : TrS C (exec (.Assign [.Name x pt] e pos) C.env) Q R σ s := by
  refine wpAny_Assign_Name (wpAny_mono h ?_ fun _ _ x => x) hsw
  rintro v s₁ ⟨σ₁, G₁, S₁, d, r, q⟩
  exact store G₁ ((T.of.vars ▸ hi)) (storable_kind T.of T.oc hs) r fun s₂ G₂ S₂ => ⟨σ₁, S₁.trans S₂, ls.set i d, G₂, q⟩

theorem compM_inv {m : ME} (h : isCompM m = true) : ∃ mm elt xi it ifs, m = .comp mm elt xi it ifs := by
  cases m <;> first | exact ⟨_, _, _, _, _, rfl⟩ | exact ff h
theorem as_assign {i : Nat} {m : ME} {st : Stmt} (h : agS P S (.assign i m) st = true) : ∃ x pt e pos, st = .Assign [.Name x pt] e pos ∧ (S.vars[i]? == some x && storable S x && (isComp e == isCompM m) && agE P S m e) = true := by
  cases st with
  | Assign ts e pos =>
    cases ts with
    | nil => exact ff h
    | cons t ts =>
      cases t <;> first
        | exact ff h
        | (cases ts <;> first | exact ⟨_, _, _, _, rfl, h⟩ | exact ff h)
  | _ => exact ff h
theorem as_setSub {o k m : ME} {st : Stmt} (h : agS P S (.setSub o k m) st = true) : ∃ b i p e pos, st = .Assign [.Subscript b i p] e pos ∧ (!isComp e && agE P S o b && agE P S k i && agE P S m e) = true := by
  cases st with
  | Assign ts e pos =>
    cases ts with
    | nil => exact ff h
    | cons t ts =>
      cases t <;> first
        | exact ff h
        | (cases ts <;> first | exact ⟨_, _, _, _, _, rfl, h⟩ | exact ff h)
  | _ => exact ff h
theorem as_expr {m : ME} {st : Stmt} (h : agS P S (.expr m) st = true) : ∃ e pos, st = .Expr e pos ∧ (!isComp e && agE P S m e) = true := by
  cases st <;> first | exact ⟨_, _, rfl, h⟩ | exact ff h
theorem as_ite {t : ME} {a b : MSs} {st : Stmt} (h : agS P S (.ite t a b) st = true) : ∃ e x y pos, st = .If e x y pos ∧ (agE P S t e && agSs P S a x && agSs P S b y) = true := by
  cases st <;> first | exact ⟨_, _, _, _, rfl, h⟩ | exact ff h
theorem as_loop {t : ME} {b : MSs} {st : Stmt} (h : agS P S (.loop t b) st = true) : ∃ e x pos, st = .While e x [] pos ∧ (agE P S t e && agSs P S b x) = true := by
  cases st with
  | While e x z pos => cases z <;> first | exact ⟨_, _, _, rfl, h⟩ | exact ff h
  | _ => exact ff h
theorem as_for {i : Tg} {it : MI} {b : MSs} {st : Stmt} (h : agS P S (.for1 i it b) st = true) : ∃ tg e body pos, st = .For tg e body [] pos ∧ ((match agTg S i tg with | some ys => ys.all (storable S) | none => false) && okI i it && notSet e && agI P S it e && agSs P S b body) = true := by
  cases st with
  | For t e body z pos => cases z <;> first | exact ⟨_, _, _, _, rfl, h⟩ | exact ff h
  | _ => exact ff h
theorem as_ret {m : ME} {st : Stmt} (h : agS P S (.ret m) st = true) : ∃ e pos, st = .Return (some e) pos ∧ agE P S m e = true := by
  cases st with
  | Return e pos => cases e <;> first | exact ⟨_, _, rfl, h⟩ | exact ff h
  | _ => exact ff h
theorem assign_sound (T : SitS C S P Φ Gc) (G : Good C σ ls s) {i : Nat} {m : ME} {x : Str} {pt pos : Pos} {e : Expr} {Q : View → Ls → Prop} {R : Post} (hi : S.vars[i]? = some x) (hs : storable S x = true) (hc : isComp e = isCompM m) (ha : agE P S m e = true)
    (h : ewp Φ Gc ls m (fun d σ' => Q σ' (ls.set i d)) σ) : TrS C (exec (.Assign [.Name x pt] e pos) C.env) Q R σ s := by
  by_cases hcm : isCompM m = true
  · refine Exists.elim (compM_inv hcm) fun mm hx => ?_; obtain ⟨elt, xi, it, ifs, rfl⟩ := hx
    have ha' := ha
    replace ha := ag_comp ha; obtain ⟨el, tg, iter, fs, scope, pos', rfl, ha⟩ := ha
    · skip
      simp only [Bool.and_eq_true] at ha
      obtain ⟨⟨⟨⟨⟨h1, h2⟩, h3⟩, h4⟩, h5⟩, h6⟩ := ha
      refine Exists.elim (tg_some h1) ?_; rintro ys hq0
      by_cases hsw : swaps S x pt (.ListComp el [⟨tg, iter, fs, 0⟩] scope pos') = true
      · have hsw' : swapsWith (.ListComp el [⟨tg, iter, fs, 0⟩] scope pos') (some (.Name x pt)) pos.line C.env = pure true := by
          unfold swaps at hsw
          dsimp only [swapsWith]
          simp only [Bool.and_eq_true] at hsw
          have hb : C.env.blockKind = .function := by unfold Env.blockKind; rw [G.fr.kind]; rfl
          show (pure _ : Sem Bool) = _
          congr 1
          rw [hb, kindOf_eq T.of]
          simp only [beq_self_eq_true, Bool.true_and, Bool.and_eq_true]
          exact hsw
        have hk : C.env.kindOf x = some .local := by
          rw [kindOf_eq T.of]
          unfold swaps at hsw
          simp only [Bool.and_eq_true, beq_iff_eq] at hsw
          exact hsw.1.1
        exact comp_assign (m := mm) T.toSit G hq0.2 hq0.1 h3 hi hk hsw' ((snd_i it T.toSit hq0.1 h2 h4 G h).mono (comp_q (snd_ess ifs).2.2.2.2.2 (snd_et elt).1 T.toSit G.fr.kind h5 h6))
      · refine tr_assign T G hi hs ?_ (snd_e _ T.toSit ha' G h)
        have hsw2 : swaps S x pt (.ListComp el [⟨tg, iter, fs, 0⟩] scope pos') = false := by simpa using hsw
        unfold swaps at hsw2
        skip
        have hb : C.env.blockKind = .function := by unfold Env.blockKind; rw [G.fr.kind]; rfl
        show (pure _ : Sem Bool) = _
        congr 1
        rw [hb, kindOf_eq T.of]
        skip
        exact hsw2
  · have hcm' : isComp e = false := by rw [hc]; simpa using hcm
    exact tr_assign T G hi hs (swaps_plain hcm') (snd_e m T.toSit ha G h)
end
end Mine
end

section

open PySem PyProof.Rows
set_option linter.unusedVariables false
set_option maxHeartbeats 4000000
namespace Mine
section
variable {P : Pg} {Φ : Spec} {Gc : Nat → V} {C : Cx} {S : Sc} {ls : Ls} {σ : View} {s : Shared}

theorem false_noted {M : Model} {A : Around} {env : Env} {E : Value → Shared → Prop} {v : Value} {s : Shared} (h : False) : notedBy M A env E v s := h.elim

inductive WInv (C : Cx) (I : Nat → View → Ls → Prop) (h : Heap) (σ : View) (n : Nat) (s' : Shared) : Prop
  | mk (σ' : View) (ls' : Ls) : I n σ' ls' → Good C σ' ls' s' → Step C.own h σ s'.heap σ' → WInv C I h σ n s'
theorem while_sound (T : SitS C S P Φ Gc) (G : Good C σ ls s) {test : Expr} {body : List Stmt} {pos : Pos} {Q : View → Ls → Prop} {R : Post} (I : Nat → View → Ls → Prop) (h0 : ∃ n, I n σ ls)
    (turn : ∀ n σ₁ ls₁ s₁, I n σ₁ ls₁ → Good C σ₁ ls₁ s₁ → TrE C ls₁ (isTrue test C.env (eval test C.env)) (fun c σ₂ s₂ => if c = true then TrS C (execs body C.env) (fun σ₃ ls₃ => ∃ m, m < n ∧ I m σ₃ ls₃) R σ₂ s₂ else Q σ₂ ls₁) σ₁ s₁) :
    TrS C (exec (.While test body [] pos) C.env) Q R σ s := by
  refine Exists.elim h0 ?_; rintro n hI
  refine wpAny_While (codeAny_whileLoop (WInv C I s.heap σ) ?_ n ⟨σ, ls, hI, G, Step.refl _ _ _⟩)
  rintro n s' ⟨σ', ls', hI', G', S'⟩
  refine wpAny_mono (turn n σ' ls' s' hI' G') ?_ fun _ _ x => false_noted x
  rintro c s₂ ⟨σ₂, G₂, S₂, h₂⟩
  cases c with
  | false => exact wpAny_execs_nil ⟨σ₂, S'.trans S₂, ls', G₂, h₂⟩
  | true =>
    refine wpAny_mono h₂ ?_ fun _ _ x => false_noted x
    rintro f s₃ ⟨σ₃, S₃, hf⟩
    cases f with
    | next => obtain ⟨ls₃, G₃, m, hq0⟩ := hf; exact ⟨m, hq0.1, σ₃, ls₃, hq0.2, G₃, (S'.trans S₂).trans S₃⟩
    | ret v => obtain ⟨ls₃, x, G₃, r, q⟩ := hf; exact ⟨σ₃, (S'.trans S₂).trans S₃, ls₃, x, G₃, r, q⟩
    | _ => exact hf.elim

/-- where a for loop stands -/
inductive FInv (C' : Cx) (own : Addr → Prop) (h : Heap) (σ₀ : View) (z : Nat) (St : Nat → Heap → Prop) (J : Nat → View → Ls → Prop) : Nat → Shared → Prop
  | mk {s' : Shared} (k : Nat) (σ' : View) (ls' : Ls) : k ≤ z → J k σ' ls' → Good C' σ' ls' s' → Step own h σ₀ s'.heap σ' → St k s'.heap → FInv C' own h σ₀ z St J (z + 1 - k) s'
inductive ForQ (C : Cx) (ls : Ls) (t : Tg) (body : List Stmt) (Q : View → Ls → Prop) (R : Post) (xs us : List V) (σ₁ : View) : Prop
  | mk (I : Nat → View → Ls → Prop) : I 0 (lockV σ₁ us) ls →
      (∀ wr k v σ₂ ls₂ s₂, xs[k]? = some v → I k σ₂ ls₂ → Good (C.more wr) σ₂ (t.up v ls₂) s₂ → TrS (C.more wr) (execs body C.env) (fun σ₃ ls₃ => I (k + 1) σ₃ ls₃) (fun d σ₃ => R d (unlockV σ₁ us σ₃)) σ₂ s₂) →
      (∀ σ₂ ls₂, I xs.length σ₂ ls₂ → Q (unlockV σ₁ us σ₂) ls₂) → ForQ C ls t body Q R xs us σ₁
theorem for_sound (T : SitS C S P Φ Gc) (G : Good C σ ls s) {t : Tg} {tgt : Expr} {iter : Expr} {body : List Stmt} {pos : Pos} {Q : View → Ls → Prop} {R : Post} (hA : ∀ wr, Asg (C.more wr) tgt (rpOf t) t.up) (hns : notSet iter = true)
    (h : SrcAt C ls t tgt iter (ForQ C ls t body Q R) σ s) : TrS C (exec (.For tgt iter body [] pos) C.env) Q R σ s := by
  refine wpAny_For (wpAny_mono h ?_ fun _ _ x => x) (folded_plain hns)
  rintro r s' ⟨σ₁, s₁, us, xs, G₁, S₁, src, J, hJ, hturn, hfin⟩
  refine src _ fun it wr h₂ tk fp Pp St I st k₂ hz₂ => ?_
  have wrn := I.new
  have wro : ∀ b, C.own b ∨ C.B b → b ∉ wr := fun b hb h => absurd (G₁.toGround.lt (.inr hb)) (Nat.not_lt.mpr (wrn b h))
  have GL := G₁.lock us
  have G₂ : Good (C.more wr) (lockV σ₁ us) ls { s₁ with heap := h₂, toks := tk } := GL.enterL k₂ hz₂ fun a ha => ⟨wrn a ha, I.alive 0 h₂ st a ha⟩
  have S₂ : Step (fun a => C.own a ∨ a ∈ wr) s₁.heap (lockV σ₁ us) h₂ (lockV σ₁ us) := ⟨fun b o e _ _ => k₂ b o e, hz₂, fun _ h1 h2 => absurd h2 h1, fun _ _ _ e _ => .inl e⟩
  have wrB : ∀ b ∈ wr, (C.more wr).own b ∨ (C.more wr).B b := fun b hb => .inr (.inr hb)
  have hlw : (C.more wr).env.locals ∉ wr := wro _ (.inl G₁.fr.ownL)
  have hcw : ∀ x c, (C.more wr).env.cells.lookup x = some c → c ∉ wr := fun x c e => wro c (G₁.fr.cells x c e).1
  have T' : SitS (C.more wr) S P Φ Gc := T.more
  have back : ∀ {σ' : View} {ls' : Ls} {s' : Shared}, Good (C.more wr) σ' ls' s' → Step (fun a => C.own a ∨ a ∈ wr) s₁.heap (lockV σ₁ us) s'.heap σ' → Good C (unlockV σ₁ us σ') ls' s' ∧ Step C.own s.heap σ s'.heap (unlockV σ₁ us σ') := by
    intro σ' ls' s' G' S'
    have Gc' : Good C σ' ls' s' := Good.leaveL G₁ G'
    have Sc' : Step C.own s₁.heap (lockV σ₁ us) s'.heap σ' := Step.leaveL (C := C) (wr := wr) (fun _ _ e => e) (Nat.le_refl _) wrn S'
    have hq3 := unlock (us := us) (fun b hb => G₁.toGround.lt (.inl hb)) Gc' Sc'
    exact ⟨hq3.1, S₁.trans hq3.2⟩
  refine codeAny_forLoop_any (FInv (C.more wr) (fun a => C.own a ∨ a ∈ wr) s₁.heap (lockV σ₁ us) xs.length St J) ?_ (xs.length + 1) (.mk 0 _ ls (Nat.zero_le _) hJ G₂ S₂ st)
  rintro m s' ⟨k, σ', ls', hkl, hJk, G', S', st'⟩
  by_cases hlt : k < xs.length
  · refine I.item' hlt st' (fun v s₂ h => wpAny_mono h (fun _ _ h => h) fun _ _ x => false_noted x) fun v h' tk' hP st'' hk' hz' => ?_
    obtain ⟨G₅, S₅, L₅⟩ := G'.quietW (tk := tk') wrB hlw hcw hz' hk' (I.alive _ _ st'')
    have S₅ := S₅ (fun a => C.own a ∨ a ∈ wr) fun b hb => .inr hb
    have S05 := S'.trans S₅
    have Lb : Leaves s₁.heap (C.D (lockV σ₁ us)) h' ((C.more wr).D σ') := fun b o e hd => by
      have hlt := Heap.lt_size e
      have hn : lockV σ₁ us b = none := by
        cases q : lockV σ₁ us b with
        | none => rfl
        | some c => exact absurd (.inl (not_some q)) hd
      have hbw : b ∉ wr := fun h => absurd hlt (Nat.not_lt.mpr (wrn b h))
      refine ⟨S05.keep b o e (Rw.of_none hn) fun h => h.elim (fun h => hd (.inr (.inl h))) hbw, fun h => ?_⟩
      rcases (D_more b).mp h with (h | h) | h
      · exact h (S05.none hlt hn)
      · exact hd (.inr h)
      · exact hbw h
    refine Exists.elim (I.val k v s'.heap.objs.size h' ((C.more wr).D σ') hlt Lb (fun a ha => G'.toGround.lt ha) hP) ?_; rintro xv hq2
    refine wpAny_mono (hA wr σ' ls' _ v xv G₅ hq2.2) ?_ fun _ _ x => false_noted x
    rintro _ s₆ ⟨G₆, S₆⟩
    refine wpAny_mono (hturn wr k xv σ' (ls') s₆ hq2.1 hJk G₆) ?_ fun _ _ x => false_noted x
    rintro f s₇ ⟨σ₇, S₇, hf⟩
    have stKeep : ∀ {hA hB : Heap} {σA σB : View} {sA : Shared} {lA : Ls}, sA.heap = hA → Good (C.more wr) σA lA sA → Step (C.more wr).own hA σA hB σB → Step (fun a => C.own a ∨ a ∈ wr) s₁.heap (lockV σ₁ us) hA σA → St (k + 1) hA → St (k + 1) hB := by
      rintro hA hB σA σB sA lA rfl GA SA SA₀ stA
      refine I.frame _ _ _ stA fun b hb o e => ?_
      rcases I.fps b hb with h | ⟨h1, h2, h3⟩
      · exact SA.keep b o e (Rw.of_none (GA.apart b (.inr (.inr h)))) fun h' => GA.apart2 b h' (.inr h)
      · exact SA.keep b o e (SA₀.notRw h1 h2) h3
    have st₆ := stKeep rfl G₅ S₆ S05 st''
    have S06 := S05.trans (S₆.weaken fun a h => .inl h)
    have S07 := S06.trans (S₇.weaken fun a h => .inl h)
    cases f with
    | next =>
      obtain ⟨ls₇, G₇, hJ₇⟩ := hf
      exact ⟨_, Nat.sub_lt_sub_left (Nat.lt_succ_of_lt hlt) (Nat.lt_succ_self k), .mk (k + 1) σ₇ ls₇ hlt hJ₇ G₇ S07 (stKeep rfl G₆ S₇ S06 st₆)⟩
    | ret v =>
      obtain ⟨ls₇, x, G₇, r, q⟩ := hf
      have hq1 := back G₇ S07
      refine ⟨_, hq1.2, ls₇, x, hq1.1, ?_, q⟩
      have e : C.D (unlockV σ₁ us σ₇) = C.D σ₇ := by
        funext b
        unfold Cx.D
        rcases unlockV_cases σ₁ σ₇ us with e | ⟨a', c, c', _, _, e2, e⟩
        · rw [e]
        · refine e ▸ ?_
          by_cases q : b = a'
          · subst q; simp [e2]
          · rw [upd_ne q]
      refine e ▸ ?_
      exact r.leaves (leaves_less _)
    | _ => exact hf.elim
  · have hk0 : k = xs.length := Nat.le_antisymm hkl (Nat.not_lt.mp hlt)
    subst hk0
    refine I.done' st' fun h' tk' hk' hz' => wpAny_execs_nil ?_
    have S₈ : Step (fun a => C.own a ∨ a ∈ wr) s'.heap σ' h' σ' := ⟨fun b o e _ ho => hk' b o (fun h => ho (.inr h)) e, hz', fun _ h1 h2 => absurd h2 h1, fun _ _ _ e _ => .inl e⟩
    have Gc' : Good C σ' ls' { s' with heap := h', toks := tk' } := Good.endL G₁ G' wro hz' hk'
    have Sc' : Step C.own s₁.heap (lockV σ₁ us) h' σ' := Step.leaveL (C := C) (wr := wr) (fun _ _ e => e) (Nat.le_refl _) wrn (S'.trans S₈)
    have hq0 := unlock (us := us) (s₃ := { s' with heap := h', toks := tk' }) (fun b hb => G₁.toGround.lt (.inl hb)) Gc' Sc'
    exact ⟨_, S₁.trans hq0.2, ls', hq0.1, hfin σ' ls' hJk⟩
end
end Mine
end

section

open PySem PyProof.Rows
set_option linter.unusedVariables false
set_option maxHeartbeats 4000000
namespace Mine
section
variable {P : Pg} {Φ : Spec} {Gc : Nat → V}

theorem Good.freezeVar {C : Cx} {ls : Ls} {σ : View} {s : Shared} {i : Nat} {a : Addr} {d : V} (G : Good C σ ls s) (hi : ls i = some (.ref a)) (hd : Real s.heap (C.D (σ.del a)) (.ref a) d) : Good C (σ.del a) (ls.set i d) s := by
  have G' := G.del (a := a)
  refine ⟨G'.toGround, ?_⟩
  have F := G'.fr
  refine ⟨F.kind, F.glob, F.blt, F.ns, F.ownL, F.cells, F.inj, fun j x d' e1 e2 e3 => ?_, F.nodup, F.has⟩
  unfold Ls.set at e3
  split at e3
  · rename_i q
    cases e3; subst q
    obtain ⟨v, hq0⟩ := F.val j x _ e1 e2 hi
    obtain rfl := hq0.2.ref_i
    exact ⟨_, hq0.1, hd⟩
  · exact F.val j x d' e1 e2 e3

theorem tr_execs_cons {C : Cx} {σ : View} {s : Shared} {st : Stmt} {rest : List Stmt} {Q : View → Ls → Prop} {R : Post} {Q₁ : View → Ls → Prop} (h : TrS C (exec st C.env) Q₁ R σ s)
    (h' : ∀ σ' ls' s', Good C σ' ls' s' → Q₁ σ' ls' → TrS C (execs rest C.env) Q R σ' s') : TrS C (execs (st :: rest) C.env) Q R σ s := by
  refine wpAny_execs_cons (wpAny_mono h ?_ fun _ _ x => x)
  rintro f s₁ ⟨σ₁, S₁, hf⟩
  cases f with
  | next =>
    obtain ⟨ls₁, G₁, q⟩ := hf
    exact (h' σ₁ ls₁ s₁ G₁ q).after S₁
  | ret v => exact ⟨σ₁, S₁, hf⟩
  | _ => exact hf.elim

noncomputable def SndS (P : Pg) (Φ : Spec) (Gc : Nat → V) (m : MS) : Prop := ∀ {C : Cx} {S : Sc} {ls : Ls} {σ : View} {s : Shared} {st : Stmt} {Q : View → Ls → Prop} {R : Post}, SitS C S P Φ Gc → agS P S m st = true → Good C σ ls s → swp Φ Gc m Q R σ ls → TrS C (exec st C.env) Q R σ s
noncomputable def SndSs (P : Pg) (Φ : Spec) (Gc : Nat → V) (ms : MSs) : Prop := ∀ {C : Cx} {S : Sc} {ls : Ls} {σ : View} {s : Shared} {ss : List Stmt} {Q : View → Ls → Prop} {R : Post}, SitS C S P Φ Gc → agSs P S ms ss = true → Good C σ ls s → swps Φ Gc ms Q R σ ls → TrS C (execs ss C.env) Q R σ s
theorem c_s_assign {i : Nat} {m : ME} : SndS P Φ Gc (.assign i m) := by
    intro C S ls σ s st Q R T h G hw
    replace h := as_assign h; obtain ⟨x, pt, e, pos, rfl, h⟩ := h
    simp only [Bool.and_eq_true, beq_iff_eq] at h
    exact assign_sound T G h.1.1.1 h.1.1.2 h.1.2 h.2 hw
theorem c_s_setSub {o k m : ME} : SndS P Φ Gc (.setSub o k m) := by
    intro C S ls σ s st Q R T h G hw
    replace h := as_setSub h; obtain ⟨b, i, p, e, pos, rfl, h⟩ := h
    simp only [Bool.and_eq_true, Bool.not_eq_true'] at h
    refine wpAny_Assign_Subscript (wpAny_mono (snd_e m T.toSit h.2 G hw) ?_ fun _ _ x => x) (swaps_plain h.1.1.1)
    rintro v s₁ ⟨σ₁, G₁, S₁, d, rd, hw₁⟩
    refine wpAny_mono (snd_e o T.toSit h.1.1.2 G₁ hw₁) ?_ fun _ _ x => x
    rintro ov s₂ ⟨σ₂, G₂, S₂, x, rx, hw₂⟩
    refine wpAny_mono (snd_e k T.toSit h.1.2 G₂ hw₂) ?_ fun _ _ x => x
    rintro kv s₃ ⟨σ₃, G₃, S₃, y, ry, a, j, es, rfl, rfl, he, hl, hq⟩
    refine wpAny_mono (g_setItem (Q := fun σ' => Q σ' ls) G₃ (rx.step G₂ S₃) ry ((rd.step G₁ S₂).step G₂ S₃) he hl hq) ?_ fun _ _ x => x
    rintro _ s₄ ⟨σ₄, G₄, S₄, q⟩
    exact ⟨σ₄, ((S₁.trans S₂).trans S₃).trans S₄, ls, G₄, q⟩
theorem c_s_expr {m : ME} : SndS P Φ Gc (.expr m) := by
    intro C S ls σ s st Q R T h G hw
    replace h := as_expr h; obtain ⟨e, pos, rfl, h⟩ := h
    simp only [Bool.and_eq_true, Bool.not_eq_true'] at h
    refine wpAny_Expr_any (wpAny_mono (snd_e m T.toSit h.2 G hw) ?_ fun _ _ x => x) (fn_interactive G.fr.kind) (swaps_plain h.1)
    rintro v s₁ ⟨σ₁, G₁, S₁, d, rd, q⟩
    exact ⟨σ₁, S₁, ls, G₁, q⟩
theorem c_s_ite {t : ME} {a b : MSs} (ih0 : SndSs P Φ Gc a) (ih1 : SndSs P Φ Gc b) : SndS P Φ Gc (.ite t a b) := by
    intro C S ls σ s st Q R T h G hw
    replace h := as_ite h; obtain ⟨e, x, y, pos, rfl, h⟩ := h
    simp only [Bool.and_eq_true] at h
    refine wpAny_If (wpAny_mono (snd_t t (Q := fun c σ' => if c = true then swps Φ Gc a Q R σ' ls else swps Φ Gc b Q R σ' ls) T.toSit h.1.1 G hw) ?_ fun _ _ x => x)
    rintro c s₁ ⟨σ₁, G₁, S₁, hw₁⟩
    cases c with
    | true => exact (ih0 T h.1.2 G₁ hw₁).after S₁
    | false => exact (ih1 T h.2 G₁ hw₁).after S₁
theorem c_s_loop {t : ME} {b : MSs} (ih0 : SndSs P Φ Gc b) : SndS P Φ Gc (.loop t b) := by
    intro C S ls σ s st Q R T h G hw
    replace h := as_loop h; obtain ⟨e, x, pos, rfl, h⟩ := h
    simp only [Bool.and_eq_true] at h
    refine Exists.elim hw ?_; rintro I hq0
    refine while_sound T G I hq0.1 fun n σ₁ ls₁ s₁ hI G₁ => ?_
    refine TrE.mono (snd_t t (Q := fun c σ₂ => if c = true then swps Φ Gc b (fun σ₃ ls₃ => ∃ m, m < n ∧ I m σ₃ ls₃) R σ₂ ls₁ else Q σ₂ ls₁) T.toSit h.1 G₁ (hq0.2 n σ₁ ls₁ hI)) fun c σ₂ s₂ G₂ _ h₂ => ?_
    cases c with
    | true => exact ih0 T h.2 G₂ h₂
    | false => exact h₂
theorem tg_all {S : Sc} {i : Tg} {tg : Expr} (h : (match agTg S i tg with | some ys => ys.all (storable S) | none => false) = true) : ∃ ys, agTg S i tg = some ys ∧ ys.all (storable S) = true := by
    cases hq : agTg S i tg with
    | none => rw [hq] at h; exact ff h
    | some ys => rw [hq] at h; exact ⟨ys, rfl, h⟩
theorem c_s_for {i : Tg} {it : MI} {b : MSs} (ih0 : SndSs P Φ Gc b) : SndS P Φ Gc (.for1 i it b) := by
    intro C S ls σ s st Q R T h G hw
    replace h := as_for h; obtain ⟨tg, e, body, pos, rfl, h⟩ := h
    simp only [Bool.and_eq_true] at h
    refine Exists.elim (tg_all h.1.1.1.1) ?_; rintro ys hq1
    refine for_sound T G (fun _ => for_asg T hq1.1 hq1.2) h.1.1.2 ((snd_i it T.toSit hq1.1 h.1.1.1.2 h.1.2 G hw).mono fun xs us σ₁ q => ?_)
    refine Exists.elim q ?_; rintro I hq0
    exact .mk I hq0.1 (fun wr k v σ₂ ls₂ s₂ hv hI G₂ => ih0 (C := C.more wr) T.more h.2 G₂ (hq0.2.1 k v σ₂ ls₂ hv hI)) hq0.2.2
theorem c_s_ret {m : ME} : SndS P Φ Gc (.ret m) := by
    intro C S ls σ s st Q R T h G hw
    replace h := as_ret h; obtain ⟨e, pos, rfl, h⟩ := h
    refine wpAny_Return_some (wpAny_mono (snd_e m T.toSit h G hw) ?_ fun _ _ x => x)
    rintro v s₁ ⟨σ₁, G₁, S₁, d, rd, q⟩
    exact ⟨σ₁, S₁, ls, d, G₁, rd, q⟩
theorem c_s_freeze {i : Nat} : SndS P Φ Gc (.freeze i) := by
    intro C S ls σ s st Q R T h G hw
    exact ff h
theorem c_ss_nil : SndSs P Φ Gc .nil := by
    intro C S ls σ s ss Q R T h G hw
    obtain rfl := List.isEmpty_iff.mp (show ss.isEmpty = true from h)
    exact wpAny_execs_nil ⟨σ, Step.refl _ _ _, ls, G, hw⟩
theorem c_ss_freeze {i : Nat} {r : MSs} (ih1 : SndSs P Φ Gc r) : SndSs P Φ Gc (.cons (.freeze i) r) := by
    intro C S ls σ s ss Q R T h G hw
    refine Exists.elim hw ?_; rintro a hq0
    rcases hq0.2 with ⟨xs, e, q⟩ | ⟨es, e, q⟩
    · exact (ih1 T h (G.freezeVar hq0.1 (G.freezeL e)) q).after (Step.del _ _ _ _)
    · exact (ih1 T h (G.freezeVar hq0.1 (G.freezeD T.R.ok e)) q).after (Step.del _ _ _ _)
theorem c_ss_cons {m : MS} {r : MSs} (ih0 : SndS P Φ Gc m) (ih1 : SndSs P Φ Gc r) (hm : ∀ {S : Sc} {ss : List Stmt}, agSs P S (.cons m r) ss = true → ∃ st rest, ss = st :: rest ∧ agS P S m st = true ∧ agSs P S r rest = true) : SndSs P Φ Gc (.cons m r) := by
    intro C S ls σ s ss Q R T h G hw
    refine Exists.elim (hm h) fun st hx => ?_; obtain ⟨rest, rfl, hq0⟩ := hx
    exact tr_execs_cons (ih0 T hq0.1 G hw) fun σ' ls' s' G' q => ih1 T hq0.2 G' q
theorem ss_inv {b c : Stmt → List Stmt → Bool} {ss : List Stmt} (h : (match ss with | st :: rest => b st rest && c st rest | [] => false) = true) : ∃ st rest, ss = st :: rest ∧ b st rest = true ∧ c st rest = true := by
    cases ss with
    | nil => exact ff h
    | cons st rest => have hq0 := Bool.and_eq_true_iff.mp h; exact ⟨st, rest, rfl, hq0.1, hq0.2⟩
mutual
theorem snd_sx : ∀ m : MS, SndS P Φ Gc m
  | .assign _ _ => c_s_assign
  | .setSub _ _ _ => c_s_setSub
  | .expr _ => c_s_expr
  | .ite _ a b => c_s_ite (snd_ssx a) (snd_ssx b)
  | .loop _ b => c_s_loop (snd_ssx b)
  | .for1 _ _ b => c_s_for (snd_ssx b)
  | .ret _ => c_s_ret
  | .freeze _ => c_s_freeze
theorem snd_ssx : ∀ ms : MSs, SndSs P Φ Gc ms
  | .nil => c_ss_nil
  | .cons m r => by
    have a : SndS P Φ Gc m := snd_sx m
    have b : SndSs P Φ Gc r := snd_ssx r
    cases m with
    | freeze i => exact c_ss_freeze b
    | _ => exact c_ss_cons a b fun h => ss_inv (b := fun st rest => agS P _ _ st) (c := fun st rest => agSs P _ r rest) h
end
theorem snd_ss (ms : MSs) {C : Cx} {S : Sc} {ls : Ls} {σ : View} {s : Shared} {ss : List Stmt} {Q : View → Ls → Prop} {R : Post} (T : SitS C S P Φ Gc) (h : agSs P S ms ss = true) (G : Good C σ ls s) (hw : swps Φ Gc ms Q R σ ls) : TrS C (execs ss C.env) Q R σ s := snd_ssx ms T h G hw
end
end Mine
end

section

open PySem PySem.Calls PyProof.Rows
namespace Mine
noncomputable def simpleP (p : Arguments) : Bool := p.posonlyargs.isEmpty && p.vararg.isNone && p.kwonlyargs.isEmpty && p.kw_defaults.isEmpty && p.kwarg.isNone && p.defaults.isEmpty
theorem zip_lookup : ∀ {names : List Str} {vals : List Value}, vals.length = names.length → names.Nodup → ∀ (i : Nat) (n : Str) (v : Value), names[i]? = some n → vals[i]? = some v → (names.zip vals).lookup n = some v
  | [], _, _, _, i, n, v, h, _ => by simp at h
  | m :: ms, [], hl, _, _, _, _, _, _ => by simp at hl
  | m :: ms, w :: ws, hl, hn, i, n, v, h1, h2 => by
    obtain ⟨ha, hr⟩ := List.nodup_cons.mp hn
    cases i with
    | zero => simp at h1 h2; subst h1 h2; simp [List.lookup_cons]
    | succ i =>
      simp at h1 h2
      have hne : n ≠ m := by rintro rfl; exact ha (List.mem_iff_getElem?.mpr ⟨i, h1⟩)
      have hb : (n == m) = false := by simpa using hne
      simp only [List.zip_cons_cons, List.lookup_cons, hb]
      exact zip_lookup (by simpa using hl) hr i n v h1 h2
theorem zip_lookup_some {names : List Str} {vals : List Value} (hl : vals.length = names.length) (hn : names.Nodup) {n : Str} (h : n ∈ names) : ∃ v, (names.zip vals).lookup n = some v := by
  refine Exists.elim (List.mem_iff_getElem?.mp h) ?_; rintro i hi
  have hlt : i < names.length := (List.getElem?_eq_some_iff.mp hi).1
  have hv : vals[i]? = some vals[i] := by simp
  exact ⟨_, zip_lookup hl hn i n _ hi (List.getElem?_eq_getElem (by (first | lia | omega)))⟩
theorem zip_filterMap : ∀ {names : List Str} {vals : List Value}, vals.length = names.length → names.Nodup → (names.filterMap fun n => ((names.zip vals).lookup n).map (n, ·)) = names.zip vals := by
  intro names vals hl hn
  have key : ∀ (ns : List Str) (ws : List Value) (pre : List Str) (pws : List Value), ws.length = ns.length → pws.length = pre.length → (pre ++ ns).Nodup → (ns.filterMap fun n => (((pre ++ ns).zip (pws ++ ws)).lookup n).map (n, ·)) = ns.zip ws := by
    intro ns
    induction ns with
    | nil => intro ws pre pws _ _ _; rfl
    | cons n ns ih =>
      intro ws pre pws hw hp hnd
      cases ws with
      | nil => simp at hw
      | cons w ws =>
        have e : ((pre ++ n :: ns).zip (pws ++ w :: ws)).lookup n = some w := by
          refine zip_lookup (by simp at hw ⊢; (first | lia | omega)) hnd pre.length n w (by simp) (by rw [← hp]; simp)
        rw [List.filterMap_cons, e]
        simp only [Option.map_some, List.zip_cons_cons]
        have := ih ws (pre ++ [n]) (pws ++ [w]) (by simpa using hw) (by simp [hp]) (by simpa using hnd)
        simp only [List.append_assoc, List.singleton_append] at this
        simp only [this]
  simpa using key names vals [] [] hl rfl (by exact hn)
theorem bind_simple {name : Str} {p : Arguments} {body : List Stmt} {scope : Scope} {pm code doc : Value} {vals : List Value} (h : simpleP p = true) (hn : (p.args.map (·.arg)).Nodup) (hl : vals.length = p.args.length) :
    bindArgs (docDef name p body scope pm code doc) ⟨vals, []⟩ = pure ((p.args.map (·.arg)).zip vals) := by
  unfold simpleP at h
  simp only [Bool.and_eq_true, List.isEmpty_iff, Option.isNone_iff_eq_none] at h
  obtain ⟨⟨⟨⟨⟨h1, h2⟩, h3⟩, h4⟩, h5⟩, h6⟩ := h
  have hl' : vals.length = (p.args.map (·.arg)).length := by simpa using hl
  have hmiss : ((p.args.map (·.arg)).filter fun n => (((p.args.map (·.arg)).zip vals).lookup n).isNone) = [] := by
    rw [List.filter_eq_nil_iff]
    intro n hm
    refine Exists.elim (zip_lookup_some hl' hn hm) ?_; rintro v hv
    simp [hv]
  have e : seqItems? Value.none = pure none := rfl
  have htk : List.take p.args.length (p.args.map (·.arg)) = p.args.map (·.arg) := List.take_of_length_le (by simp)
  dsimp only [bindArgs, docDef]
  simp only [h1, h2, h3, h5, e, List.map_nil, List.nil_append, List.forIn_nil, pure_bind, Option.getD_none, Array.toList_empty, List.length_nil, List.drop_nil, Nat.sub_zero, hl, List.length_map, htk, hmiss, List.zip_nil_right, List.append_nil, zip_filterMap hl' hn]
  simp
end Mine
end

section

open PySem PySem.Calls PyProof.Rows
set_option linter.unusedVariables false
namespace Mine

structure Fn where
  d : DefRec
  ms : MSs
  vars : List Str

noncomputable def argLs (xs : List V) : Ls := fun i => xs[i]?

noncomputable def agFn (P : Pg) (F : Fn) : Bool :=
  simpleP F.d.params && decide (F.vars.Nodup) && (F.vars.take F.d.params.args.length == F.d.params.args.map (·.arg)) && F.d.scope.kind == .function && !F.d.scope.isCoroutine && !F.d.scope.isGenerator &&
  (F.d.scope.names.all fun (n, k) => k != .free && F.d.scope.names.lookup n == some k) && (F.d.params.args.all fun a => F.d.scope.names.lookup a.arg == some .local || F.d.scope.names.lookup a.arg == some .cell) &&
  agSs P ⟨F.d.scope.names, F.vars⟩ F.ms F.d.body

theorem cellsFrom_some : ∀ (names : List (Str × NameKind)) (n0 : Nat) (acc : List (Str × Addr)) (x : Str), ((x, NameKind.cell) ∈ names ∨ (acc.lookup x).isSome = true) → ((cellsFrom n0 names acc).lookup x).isSome = true
  | [], n0, acc, x, h => by
    rcases h with h | h
    · cases h
    · exact h
  | (n, k) :: r, n0, acc, x, h => by
    unfold cellsFrom
    split
    · rename_i hk
      refine cellsFrom_some r _ _ x ?_
      by_cases q : x = n
      · right; subst q; simp [List.lookup_cons]
      · have hb : (x == n) = false := by simpa using q
        rcases h with h | h
        · rcases List.mem_cons.mp h with e | h
          · cases e; exact absurd rfl q
          · exact .inl h
        · right; simp only [List.lookup_cons, hb]; exact h
    · rename_i hk
      refine cellsFrom_some r _ _ x ?_
      rcases h with h | h
      · rcases List.mem_cons.mp h with e | h
        · cases e; simp at hk
        · exact .inl h
      · exact .inr h
theorem bindL_other (ko : Str → Option NameKind) : ∀ (binds : List (Str × Value)) (m : Str → Option Value) (x : Str), x ∉ binds.map (·.1) → bindL ko binds m x = m x
  | [], m, x, _ => rfl
  | (n, v) :: r, m, x, h => by
    simp at h
    unfold bindL
    rw [bindL_other ko r _ x (by simpa using h.2)]
    split
    · simp [h.1]
    · rfl
theorem bindL_at (ko : Str → Option NameKind) : ∀ (binds : List (Str × Value)) (m : Str → Option Value) (x : Str) (v : Value), (binds.map (·.1)).Nodup → binds.lookup x = some v → ko x = some .local → bindL ko binds m x = some v
  | [], m, x, v, _, h, _ => by simp at h
  | (n, w) :: r, m, x, v, hn, h, hk => by
    simp only [List.map_cons, List.nodup_cons] at hn
    rw [List.lookup_cons] at h
    unfold bindL
    split at h
    · rename_i q
      have q' := beq_iff_eq.mp q
      cases h; subst q'
      rw [bindL_other ko r _ x hn.1, if_pos hk]; simp
    · exact bindL_at ko r _ x v hn.2 h hk
theorem bindC_other (ko : Str → Option NameKind) : ∀ (binds : List (Str × Value)) (m : Str → Option Value) (x : Str), x ∉ binds.map (·.1) → bindC ko binds m x = m x
  | [], m, x, _ => rfl
  | (n, v) :: r, m, x, h => by
    simp at h
    unfold bindC
    rw [bindC_other ko r _ x (by simpa using h.2)]
    split
    · rfl
    · simp [h.1]
theorem bindC_at (ko : Str → Option NameKind) : ∀ (binds : List (Str × Value)) (m : Str → Option Value) (x : Str) (v : Value), (binds.map (·.1)).Nodup → binds.lookup x = some v → ko x ≠ some .local → bindC ko binds m x = some v
  | [], m, x, v, _, h, _ => by simp at h
  | (n, w) :: r, m, x, v, hn, h, hk => by
    simp only [List.map_cons, List.nodup_cons] at hn
    rw [List.lookup_cons] at h
    unfold bindC
    split at h
    · rename_i q
      have q' := beq_iff_eq.mp q
      cases h; subst q'
      rw [bindC_other ko r _ x hn.1, if_neg hk]; simp
    · exact bindC_at ko r _ x v hn.2 h hk
end Mine
end

section

open PySem PySem.Calls PyProof.Rows
set_option linter.unusedVariables false
namespace Mine

noncomputable def Cx.call (C : Cx) (env : Env) (vars : List Str) : Cx :=
  { W := C.W, A := C.A.deeper env, env := env, vars := vars, own := fun a => a = env.locals ∨ ∃ n, env.cells.lookup n = some a, B := fun a => C.own a ∨ C.B a }

section
variable {C : Cx} {P : Pg} {Φ : Spec} {Gc : Nat → V} {ls : Ls} {σ : View} {s : Shared}

theorem codeRec_keeps {h h' : Heap} {c : Value} {q : Str} (x : h.CodeRec c q) (k : ∀ b o, h.get? b = some o → h'.get? b = some o) : h'.CodeRec c q := by
  refine Exists.elim x fun a hx => ?_; obtain ⟨o, vs, t, hq0⟩ := hx
  exact ⟨a, o, vs, t, hq0.1, k _ _ hq0.2.1, hq0.2.2⟩
theorem map_fst_zip {α β : Type} : ∀ {l : List α} {r : List β}, r.length = l.length → (l.zip r).map (·.1) = l
  | [], _, _ => rfl
  | _ :: _, [], h => by simp at h
  | a :: l, b :: r, h => by simp [map_fst_zip (l := l) (r := r) (by simpa using h)]

theorem fn_enter (G : Ground C σ s) (hW : C.W.Ok) (hh : C.A.handled = none) (hdep : C.A.depth < recursionLimit) (hu : C.A.units + 203 < cLine) {F : Fn} (hF : agFn P F = true) {a : Addr} {o : Obj} {pm code doc : Value} (ho : s.heap.get? a = some o)
    (hd : o.data = .func (docDef F.d.name F.d.params F.d.body F.d.scope pm code doc)) (hcd : s.heap.CodeRec code F.d.name) {vs : List Value} {xs : List V} (rs : Reals s.heap (C.D σ) vs xs) (hlen : xs.length = F.d.params.args.length)
    (lnk : ∀ env, Lnk C.W (C.A.deeper env) P Φ Gc) {Q : Post} (hw : swps Φ Gc F.ms (fun σ' _ => Q .none σ') Q σ (argLs xs)) :
    wpAny (model C.W.prog C.W.w) C.A (call (.ref a) vs) (fun v s' => ∃ env ls' σ' x, Good (C.call env F.vars) σ' ls' s' ∧ Step (C.call env F.vars).own s.heap σ s'.heap σ' ∧ (∀ b, (C.call env F.vars).own b → s.heap.objs.size ≤ b) ∧ Real s'.heap ((C.call env F.vars).D σ') v x ∧ Q x σ') (fun _ _ => False) s := by
  dsimp only [agFn] at hF
  simp only [Bool.and_eq_true, decide_eq_true_eq, beq_iff_eq, Bool.not_eq_true', List.all_eq_true, Bool.or_eq_true, bne_iff_ne, Prod.forall] at hF
  obtain ⟨⟨⟨⟨⟨⟨⟨⟨f1, f2⟩, f3⟩, f4⟩, f5⟩, f6⟩, f7⟩, f8⟩, f9⟩ := hF
  have hvl : vs.length = F.d.params.args.length := (Eq.trans rs.length hlen)
  have hpn : (F.d.params.args.map (·.arg)).Nodup := (f3 ▸ (List.Nodup.sublist (List.take_sublist _ _) f2))
  have hbind := bind_simple (name := F.d.name) (body := F.d.body) (scope := F.d.scope) (pm := pm) (code := code) (doc := doc) f1 hpn hvl
  have hkinds : ∀ x ∈ (F.d.params.args.map (·.arg)).zip vs, F.d.scope.names.lookup x.1 = some .local ∨ (F.d.scope.names.lookup x.1 = some .cell ∧ ((cellsFrom (s.heap.objs.size + 1) F.d.scope.names []).lookup x.1).isSome = true) := by
    intro x hx
    have hx1 : x.1 ∈ F.d.params.args.map (·.arg) := (List.of_mem_zip (a := x.1) (b := x.2) hx).1
    obtain ⟨ar, hq3⟩ := List.mem_map.mp hx1
    rcases f8 ar hq3.1 with h | h
    · left; rw [← hq3.2]; exact h
    · right
      refine ⟨by rw [← hq3.2]; exact h, cellsFrom_some _ _ _ _ (.inl (mem_of_lookup (by rw [← hq3.2]; exact h)))⟩
  refine wpAny_call (codeAny_call_cells hdep ho hd (hW.top.nolimit.keeps G.stays) hcd rfl hbind rfl hkinds (fun s₁ X => ?_) f5 f6 f4)
  generalize hfd : docDef F.d.name F.d.params F.d.body F.d.scope pm code doc = fd at X ⊢
  generalize henv : callEnvC fd s.heap.objs.size a = env at X ⊢
  have eL : env.locals = s.heap.objs.size := by rw [← henv]; rfl
  have eN : env.scope.names = F.d.scope.names := by rw [← henv, ← hfd]; rfl
  have eK : env.scope.kind = .function := (henv ▸ hfd ▸ f4)
  have eG : env.globals = mainGlobals := by rw [← henv, ← hfd]; rfl
  have eB : env.builtins = builtinsNs := by rw [← henv, ← hfd]; rfl
  have eC : env.cells = cellsFrom (s.heap.objs.size + 1) F.d.scope.names [] := by rw [← henv, ← hfd]; rfl
  have eBody : F.d.body = F.d.body := rfl
  obtain ⟨IC, hcell, hapart, habove⟩ := X
  obtain ⟨⟨h₁, tk, es⟩, hns, hkeep, hfr⟩ := IC
  subst es
  have hkeep' : ∀ b o, s.heap.get? b = some o → h₁.get? b = some o := hkeep
  have hns' : h₁.Ns env.locals _ := hns
  have hzz : s.heap.objs.size ≤ h₁.objs.size := by have := hns'.lt; rw [eL] at this; exact Nat.le_of_lt this
  have cellAb : ∀ n c, env.cells.lookup n = some c → s.heap.objs.size < c := fun n c e => by have := habove n c (mem_of_lookup e); rw [eL] at this; exact this
  have hnew : ∀ b, (C.call env F.vars).own b → s.heap.objs.size ≤ b ∧ ∃ o, h₁.get? b = some o := by
    rintro b (rfl | ⟨n, e⟩)
    · refine Exists.elim hns' fun o hx => ?_; obtain ⟨_, _, hq2⟩ := hx
      exact ⟨Nat.le_of_eq eL.symm, o, hq2.1⟩
    · refine Exists.elim (hcell n b e) ?_; rintro o hq1
      exact ⟨Nat.le_of_lt (cellAb n b e), o, hq1.1⟩
  have hN : ∀ b, (C.call env F.vars).own b ∨ (C.call env F.vars).B b → (C.own b ∨ C.B b) ∨ (s.heap.objs.size ≤ b ∧ ∃ o, h₁.get? b = some o) := fun b h => h.elim (fun h => .inr (hnew b h)) .inl
  have hdis : ∀ b, (C.call env F.vars).own b → ¬ (C.call env F.vars).B b := fun b h hb => absurd (G.lt (.inr hb)) (Nat.not_lt.mpr (hnew b h).1)
  have Gr : Ground (C.call env F.vars) σ { s with heap := h₁, toks := tk } := G.enter rfl hkeep' hzz hN hdis
  have hks : ∀ x, (C.call env F.vars).env.kindOf x = F.d.scope.names.lookup x := fun x => by show env.scope.names.lookup x = _; rw [eN]
  have L : Leaves s.heap (C.D σ) h₁ ((C.call env F.vars).D σ) := fun b o e hd => by
    refine ⟨hkeep' b o e, ?_⟩
    rintro (h | h)
    · exact hd (.inl h)
    · rcases hN b h with h | h
      · exact hd (.inr h)
      · exact absurd (Heap.lt_size e) (Nat.not_lt.mpr h.1)
  have zl : ((F.d.params.args.map (·.arg)).zip vs).map (·.1) = F.d.params.args.map (·.arg) := map_fst_zip (by simpa using hvl)
  have Fr : FrOK (C.call env F.vars) σ (argLs xs) h₁ := by
    refine ⟨eK, eG, eB, ⟨_, hns'⟩, .inl rfl, fun x c e => ⟨.inl (.inr ⟨x, e⟩), ?_, ⟨_, hcell x c e⟩⟩, fun x y c e1 e2 => name_of_addr hapart (mem_of_lookup e1) (mem_of_lookup e2), fun i x d e1 e2 e3 => ?_, f2, fun x hx => ?_⟩
    · exact fun q => absurd (cellAb x c e) (Nat.not_lt.mpr (Nat.le_of_eq ((eL ▸ q))))
    · have e3' : xs[i]? = some d := e3
      refine Exists.elim (rs.get e3') ?_; rintro v hq0
      have hi : i < F.d.params.args.length := (hlen ▸ ((List.getElem?_eq_some_iff.mp e3').1))
      have hx : (F.d.params.args.map (·.arg))[i]? = some x := by rw [← f3, List.getElem?_take_of_lt hi]; exact e1
      have hlk := zip_lookup (by simpa using hvl) hpn i x v hx hq0.1
      refine ⟨v, ?_, hq0.2.leaves L⟩
      by_cases q : env.kindOf x = some .local
      · exact .inl ⟨q, _, hns', bindL_at _ _ _ x v (by rw [zl]; exact hpn) hlk q⟩
      · have hc : env.kindOf x = some .cell := by
          rcases e2 with e2 | e2 | e2
          · exact absurd e2 q
          · exact e2
          · rw [hks] at e2
            exact absurd rfl (f7 x _ (mem_of_lookup e2)).1
        have hsome : (env.cells.lookup x).isSome = true := by
          rw [eC]; exact cellsFrom_some _ _ _ _ (.inl (mem_of_lookup (by have := hks x; rw [show (C.call env F.vars).env.kindOf x = env.kindOf x from rfl, hc] at this; exact this.symm)))
        obtain ⟨c, hc'⟩ := Option.isSome_iff_exists.mp hsome
        refine .inr ⟨.inl hc, c, hc', ?_⟩
        have := hcell x c hc'
        simp only [bindC_at _ _ _ x v (by rw [zl]; exact hpn) hlk q] at this
        exact this
    · rcases hx with hx | hx
      · rw [hks] at hx
        have : (env.cells.lookup x).isSome = true := by rw [eC]; exact cellsFrom_some _ _ _ _ (.inl (mem_of_lookup hx))
        exact Option.isSome_iff_exists.mp this
      · rw [hks] at hx
        exact absurd rfl (f7 x _ (mem_of_lookup hx)).1
  have T : SitS (C.call env F.vars) ⟨F.d.scope.names, F.vars⟩ P Φ Gc :=
    ⟨⟨⟨hW, hh, by skip; assumption⟩, ⟨eN, rfl⟩, lnk env⟩, fun x c e => .inr ⟨x, e⟩⟩
  have body := snd_ss F.ms T f9 ⟨Gr, Fr⟩ hw
  refine wpAny_mono body (?_) fun _ _ x => x.elim
  rintro f s' ⟨σ', S', hf⟩
  have S₀ : Step (C.call env F.vars).own s.heap σ s'.heap σ' := ⟨fun b o e hr ho => S'.keep b o (hkeep' b o e) hr ho, Nat.le_trans hzz S'.size, fun b h1 h2 => Nat.le_trans hzz (S'.grow b h1 h2), fun b c hb e hr => S'.ro b c (Nat.lt_of_lt_of_le hb hzz) e hr⟩
  cases f with
  | next =>
    obtain ⟨ls', G', q⟩ := hf
    exact ⟨env, ls', σ', .none, G', S₀, fun b h => (hnew b h).1, .none, q⟩
  | ret v =>
    obtain ⟨ls', x, G', r, q⟩ := hf
    exact ⟨env, ls', σ', x, G', S₀, fun b h => (hnew b h).1, r, q⟩
  | _ => exact hf.elim

theorem fn_call (G : Good C σ ls s) (hW : C.W.Ok) (hh : C.A.handled = none) (hdep : C.A.depth < recursionLimit) (hu : C.A.units + 203 < cLine) {F : Fn} (hF : agFn P F = true) {a : Addr} {o : Obj} {pm code doc : Value} (ho : s.heap.get? a = some o)
    (hd : o.data = .func (docDef F.d.name F.d.params F.d.body F.d.scope pm code doc)) (hcd : s.heap.CodeRec code F.d.name) {vs : List Value} {xs : List V} (rs : Reals s.heap (C.D σ) vs xs) (hlen : xs.length = F.d.params.args.length)
    (lnk : ∀ env, Lnk C.W (C.A.deeper env) P Φ Gc) {Q : Post} (hw : swps Φ Gc F.ms (fun σ' _ => Q .none σ') Q σ (argLs xs)) : TrE C ls (call (.ref a) vs) (RV C Q) σ s := by
  refine wpAny_mono (fn_enter G.toGround hW hh hdep hu hF ho hd hcd rs hlen lnk hw) (?_) fun _ _ x => x
  rintro v s' ⟨env, ls', σ', x, G', S', hn, r, q⟩
  have hq0 := G.leave (τ := σ') (h₄ := s'.heap) (tk := s'.toks) (N := (C.call env F.vars).own) (C' := C.call env F.vars) rfl (fun b h => h) (fun b h => ⟨hn b h, .inl h⟩) G'.toGround S' (fun b o _ e => e) (Nat.le_refl _) (fun b h => .inl h) (fun b c e => e)
    (fun _ b c e hb => by have := G'.apart b (.inl hb); replace this := e ▸ this; exact nn (Eq.symm this))
  exact ⟨σ', hq0.1, hq0.2.1, x, r.leaves hq0.2.2, q⟩

/-! a table of functions, each calling those ahead of it -/
structure Tab where
  fns : List Fn
  gcs : List Str
noncomputable def Tab.pg (t : Tab) : Pg := ⟨t.fns.map (·.d.name), t.gcs⟩
noncomputable def below (Φ : Spec) (n : Nat) : Spec := fun f xs Q σ => f < n ∧ Φ f xs Q σ

structure Tab.Ok (t : Tab) (W : Wd) (Φ : Spec) (Gc : Nat → V) : Prop where
  w : W.Ok
  blt : Blt W
  mem : ∀ F ∈ t.fns, F.d ∈ recsOf W.q
  ag : ∀ F ∈ t.fns, agFn t.pg F = true
  mono : SpecMono Φ
  gc : ∀ k x, t.gcs[k]? = some x → ∃ v, W.mg x = some v ∧ ∀ h D, Real h D v (Gc k)
  spec : ∀ f F, t.fns[f]? = some F → ∀ xs Q σ, Φ f xs Q σ → xs.length = F.d.params.args.length ∧ swps (below Φ f) Gc F.ms (fun σ' _ => Q .none σ') Q σ (argLs xs)

theorem Tab.Ok.lnk {t : Tab} {W : Wd} (O : t.Ok W Φ Gc) : ∀ (n : Nat) (A : Around), A.handled = none → A.depth + n < recursionLimit → A.units + 3 * n + 203 < cLine → Lnk W A t.pg (below Φ n) Gc
  | n, A, hh, hd, hu => by
    have addr : ∀ (f : Nat) (g : Str), t.pg.fns[f]? = some g → ∃ (F : Fn) (a : Addr) (o : Obj) (pm code doc : Value), t.fns[f]? = some F ∧ F.d.name = g ∧ W.mg g = some (.ref a) ∧ W.s₀.heap.get? a = some o ∧ o.data = .func (docDef F.d.name F.d.params F.d.body F.d.scope pm code doc) ∧ W.s₀.heap.CodeRec code F.d.name := by
      intro f g hf
      simp only [Tab.pg, List.getElem?_map, Option.map_eq_some_iff] at hf
      obtain ⟨F, hF, rfl⟩ := hf
      obtain ⟨a, o, pm, code, doc, hq1⟩ := O.w.top.fn F.d (O.mem F (List.mem_iff_getElem?.mpr ⟨f, hF⟩))
      exact ⟨F, a, o, pm, code, doc, hF, rfl, hq1.1, hq1.2.1, hq1.2.2.1, hq1.2.2.2⟩
    refine ⟨fun f g hf => ?_, O.gc, O.blt, fun f vs Q Q' σ h k => ⟨h.1, O.mono f vs Q Q' σ h.2 k⟩⟩
    refine Exists.elim (addr f g hf) fun F hx => ?_; obtain ⟨a, o, pm, code, doc, hq0⟩ := hx
    refine ⟨a, o, _, hq0.2.2.1, hq0.2.2.2.1, hq0.2.2.2.2.1, fun C ls σ s vs xs Q eW eA G rs hφ => ?_⟩
    subst eW eA
    obtain ⟨hlt, hφ⟩ := hφ
    cases n with
    | zero => exact absurd hlt (Nat.not_lt_zero _)
    | succ n =>
      obtain ⟨hl, hw⟩ := O.spec f F hq0.1 xs Q σ hφ
      have hle : f ≤ n := Nat.lt_succ_iff.mp hlt
      refine fn_call (P := t.pg) (Φ := below Φ f) (Gc := Gc) G O.w hh (by (first | lia | omega)) (by (first | lia | omega)) (O.ag F (List.mem_iff_getElem?.mpr ⟨f, hq0.1⟩)) (G.stays _ _ hq0.2.2.2.1) hq0.2.2.2.2.1 (codeRec_keeps hq0.2.2.2.2.2 G.stays) rs hl (fun env => ?_) hw
      exact Tab.Ok.lnk O f (C.A.deeper env) hh (by show C.A.depth + 1 + f < _; (first | lia | omega)) (by show C.A.units + 3 + 3 * f + 203 < _; (first | lia | omega))
  termination_by n => n
end
end Mine
end

section

open PySem PySem.W PySem.Calls PyProof.Rows
set_option linter.unusedVariables false
namespace Mine

theorem ints_of_items {R : WRecords} : ∀ {xs : List WData}, WShape.hasItems R xs .int = true → ∃ ks : List Int, xs = ks.map .int
  | [], _ => ⟨[], rfl⟩
  | x :: xs, h => by
    simp only [WShape.hasItems, Bool.and_eq_true] at h
    obtain ⟨ks, rfl⟩ := ints_of_items h.2
    refine Exists.elim (hasW_int h.1) fun i hx => ?_; obtain rfl := hx
    exact ⟨i :: ks, rfl⟩
theorem weight_bits : ∀ {ks : List Int} {n : Nat}, WData.weightAll (ks.map .int) ≤ n → ∀ k ∈ ks, Builtin.Int.intBits k ≤ n
  | [], _, _, k, hk => nomatch hk
  | i :: ks, n, h, k, hk => by
    simp only [List.map_cons, WData.weightAll, WData.weight] at h
    rcases List.mem_cons.mp hk with rfl | hk
    · unfold Builtin.Int.intBits; (first | lia | omega)
    · exact weight_bits (ks := ks) (n := n) (by (first | lia | omega)) k hk

theorem pre_ints {l : OpenLaw} (hm : l.most = some 63) (hb : l.bound = none) {args : List WData} (h : l.row.toRowW.claim.pre args = true) (hlay : WData.layableAll args = true) :
    ∃ ks : List Int, args = [.list (ks.map .int)] ∧ ks.length ≤ 63 ∧ ∀ k ∈ ks, Builtin.Int.intBits k ≤ 2 ^ 20 := by
  have hq0 := pre_splitW h
  refine Exists.elim (hasAllW_cons (show WShape.hasAll _ args (WShape.list .int :: []) = true from hq0.1)) fun d hx => ?_; obtain ⟨r, rfl, hd, hr⟩ := hx
  have := hasAllW_nil hr
  subst this
  refine Exists.elim (hasW_list hd) fun xs hx => ?_; obtain ⟨rfl, hi⟩ := hx
  refine Exists.elim (ints_of_items hi) fun ks hx => ?_; obtain rfl := hx
  refine ⟨ks, rfl, ?_, ?_⟩
  · have h3 : l.pre.holds [] { args := [.list (ks.map .int)] } = true := hq0.2
    unfold OpenLaw.pre at h3
    simp only [hm, hb] at h3
    have hv : WTm.value [] (WTm.and (.not (.lt (.lit (.int (63 : Nat))) (.len (.arg 0)))) (.lit (.bool true))) { args := [.list (ks.map .int)] } = some (.bool (!decide ((63 : Int) < ks.length))) := by
      simp [WTm.value, less?, Num.less?]
      by_cases q : (63 : Int) < ks.length <;> simp [q]
    unfold WTm.holds at h3
    rw [hv] at h3
    by_cases q : (63 : Int) < ks.length
    · simp [q] at h3
    · (first | lia | omega)
  · simp only [WData.layableAll, List.all_cons, List.all_nil, Bool.and_true, WData.layable, Bool.and_eq_true, WData.weight] at hlay
    exact weight_bits (of_decide_eq_true hlay.2)

/-- at the top: the law's call -/
noncomputable def Cx.top (W : Wd) : Cx := { W := W, A := callerA, env := default, vars := [], own := fun _ => False, B := fun _ => False }
theorem top_ground (W : Wd) : Ground (Cx.top W) (fun _ => none) W.s₀ := by
  refine ⟨fun _ _ e => e, ⟨rfl, rfl, rfl⟩, fun a h => ?_, Nat.le_refl _, fun _ _ e => ?_, fun _ _ => rfl, fun _ h => False.elim h, fun _ h => ?_⟩
  · rcases h with h | h | h
    · exact absurd rfl h
    · exact False.elim h
    · exact False.elim h
  · exact nn e
  · rcases h with h | h
    · exact False.elim h
    · exact False.elim h

theorem well_ints {P : Params} {h : Heap} {D : Addr → Prop} : ∀ {vs : List Value} {ks : List Int}, WellAll P h vs (ks.map .int) → Reals h D vs (ks.map .int)
  | [], [], _ => .nil
  | _ :: _, [], w => by cases w
  | [], _ :: _, w => by cases w
  | v :: vs, k :: ks, w => by
    cases w with
    | cons a b => cases a; exact .cons (.int _ _) (well_ints b)

theorem post_true (l : OpenLaw) (args : List WData) : l.row.toRowW.claim.post args (.bool true) args = true := by
  simp [RowW.claim, OpenLaw.row, WTm.holds, WTm.value, WShape.has, WShape.arms, same]
/-- the law's walk, from its table -/
theorem law_walk {l : OpenLaw} (hm : l.most = some 63) (hb : l.bound = none) {q : Program} {loose : List Str} {XP : (Str → Option Value) → Heap → Prop} {YP : World → Heap → Prop} {d : DefRec} (t : Tab) (Φ : Spec) (Gc : Nat → V) (n : Nat) (F : Fn) (hF : t.fns[n]? = some F) (hd : F.d = d)
    (hn : n < 100) (hargs : d.params.args.length = 1) (hag : ∀ F ∈ t.fns, agFn t.pg F = true) (hmem : ∀ F ∈ t.fns, F.d ∈ recsOf q) (hmono : SpecMono Φ)
    (hblt : ∀ n ∈ blts, Str.ofString n ∉ startupNames ∧ Str.ofString n ∉ looseW q loose ∧ Str.ofString n ∉ (recsOf q).map (·.name) ∧ Str.ofString n ∉ (litsOf q).map (·.1) ∧ Str.ofString n ∉ (clssOf q (looseW q loose)).map (·.name))
    (hgc : ∀ k x, t.gcs[k]? = some x → ∃ c, valOf q x = some c ∧ ∀ h v D, Reads h v c [] → Real h D v (Gc k))
    (hspec : ∀ f F, t.fns[f]? = some F → ∀ xs Q σ, Φ f xs Q σ → xs.length = F.d.params.args.length ∧ swps (below Φ f) Gc F.ms (fun σ' _ => Q .none σ') Q σ (argLs xs))
    (hlaw : ∀ ks : List Int, ks.length ≤ 63 → (∀ k ∈ ks, Builtin.Int.intBits k ≤ 2 ^ 20) → swps (below Φ n) Gc F.ms (fun _ _ => V.none = .bool true) (fun d _ => d = .bool true) (fun _ => none) (argLs [.lst (ks.map .int)])) :
    WalkO q loose XP YP l.row.toRowW d [] (fun f vs => call f vs) := by
  intro w s₀ s₁ mg mb G Y a o pm cd doc dV kV ho hdat hcd hD hmg hg args vals as hpre hlay hrd hwl hlo
  obtain ⟨ks, rfl, hlen, hbits⟩ := pre_ints hm hb hpre hlay
  have hdV : dV = .none ∧ kV = .none := by
    refine ⟨hD.none ?_, hD.noKw⟩
    have := hag F (List.mem_iff_getElem?.mpr ⟨n, hF⟩)
    unfold agFn simpleP at this
    simp only [Bool.and_eq_true, List.isEmpty_iff] at this
    rw [← hd]
    exact this.1.1.1.1.1.1.1.1.2
  obtain ⟨rfl, rfl⟩ := hdV
  cases hwl with
  | cons hw1 hw2 =>
    cases hw2
    cases hw1 with
    | list hl hws =>
      rename_i la vs
      have O : t.Ok ⟨l.prog, w, q, looseW q loose, ExcName.means s₀.heap, s₁, mg, mb⟩ Φ Gc := by
        refine ⟨⟨G.T⟩, fun n hn => ?_, hmem, hag, hmono, fun k x hk => ?_, hspec⟩
        · obtain ⟨h1, h2, h3, h4, h5⟩ := hblt n hn
          exact G.T.free _ h1 h2 h3 h4 h5
        · obtain ⟨c, hc, hr⟩ := hgc k x hk
          obtain ⟨v, hv, hrd⟩ := G.T.const x c hc
          exact ⟨v, hv, fun h D => hr h v D (hrd h)⟩
      have lnk : ∀ env, Lnk (Cx.top ⟨l.prog, w, q, looseW q loose, ExcName.means s₀.heap, s₁, mg, mb⟩).W ((Cx.top ⟨l.prog, w, q, looseW q loose, ExcName.means s₀.heap, s₁, mg, mb⟩).A.deeper env) t.pg (below Φ n) Gc :=
        fun env => O.lnk n _ rfl (by show 1 + claimMargin + 1 + n < recursionLimit; unfold claimMargin recursionLimit; (first | lia | omega)) (by show 4 + 3 + 3 * n + 203 < cLine; unfold cLine; (first | lia | omega))
      subst hd
      have key := fn_enter (C := Cx.top ⟨l.prog, w, q, looseW q loose, ExcName.means s₀.heap, s₁, mg, mb⟩) (P := t.pg) (Φ := below Φ n) (Gc := Gc) (Q := fun d _ => d = .bool true) (xs := [.lst (ks.map .int)]) (vs := [.ref la]) (top_ground _) O.w rfl (by show 1 + claimMargin < recursionLimit; decide) (by show 4 + 203 < cLine; decide) (hag F (List.mem_iff_getElem?.mpr ⟨n, hF⟩)) ho hdat hcd
        (.cons (.lst hl ?_ (fun h => ?_) (by simpa using well_ints hws)) .nil) (by simpa using hargs.symm) lnk ?_
      · refine wpAny_mono key (fun v s' ⟨env, ls', σ', x, G', S', hnew, r, hx⟩ => GoodW.toG ?_) fun _ _ x => x.elim
        subst hx
        cases r
        refine ⟨.inl ⟨.bool true, .bool true, [], rfl, fun _ => rfl, .bool true, ?_, fun _ => ⟨List.nodup_nil, fun _ h => nomatch h⟩⟩, G'.stays, G'.same.2.2, ?_⟩
        · exact post_true l _
        · rw [G'.same.1]; exact hg
      · have := (well_ints (D := fun _ => False) hws).length
        simp at this ⊢; (first | lia | omega)
      · rcases h with h | h | h
        · exact h rfl
        · exact h
        · exact h
      · exact hlaw ks hlen hbits
end Mine
end

section

open PySem PySem.W PySem.Calls PyProof.Rows
namespace Mine
/-! helpers for conditions -/
theorem mulFits_right {a b : Int} (h1 : -(2 ^ 63) ≤ b) (h2 : b < 2 ^ 63) : mulFits a b = true := by
  unfold mulFits
  have := intBits_le_64 (k := b) (by (first | lia | omega)) (by (first | lia | omega))
  simp [shortFactorBits, this, Nat.not_lt.mpr this]
theorem idxOf_nat {n m : Nat} (h : n < m) : idxOf (n : Int) m = some n := by unfold idxOf; simp; assumption
theorem idxOf_pos {i : Int} {m : Nat} (h0 : 0 ≤ i) (h : i < m) : idxOf i m = some i.toNat := by unfold idxOf; simp [h0, h]
theorem smallI_of {i : Int} (h1 : -(2 ^ 62) < i) (h2 : i < 2 ^ 62) : smallI i = true := by unfold smallI; skip; (first | lia | omega)
theorem rangeL_nat (n : Nat) : rangeL 0 (n : Int) 1 = (List.range n).map Int.ofNat := by
  unfold rangeL; simp
theorem rangeL_0 {n : Int} (h : 0 ≤ n) : rangeL 0 n 1 = (List.range n.toNat).map Int.ofNat := by
  have := rangeL_nat n.toNat
  rwa [Int.toNat_of_nonneg h] at this
theorem itXs_range {σ : View} {n : Int} (h : 0 ≤ n) (h2 : n < 2 ^ 62) : itXs 1 σ [.int n] = some ((List.range n.toNat).map fun k => V.int (k : Nat)) := by
  show (if smallI n = true then some ((rangeL 0 n 1).map V.int) else none) = _
  rw [if_pos (smallI_of (by (first | lia | omega) : -(2 ^ 62) < n) h2), rangeL_0 h, List.map_map]
  rfl
theorem range_get {n k : Nat} {v : V} (h : ((List.range n).map fun k => V.int (k : Nat))[k]? = some v) : k < n ∧ v = .int k := by
  simp only [List.getElem?_map, Option.map_eq_some_iff] at h
  refine Exists.elim h fun a hx => ?_; obtain ⟨h1, h2⟩ := hx
  have hk : k < n := by
    have := (List.getElem?_eq_some_iff.mp h1).1
    simpa using this
  cases Eq.trans (Eq.symm (List.getElem?_range hk)) h1
  exact ⟨hk, h2.symm⟩
theorem lenOf_seq {σ : View} {x : V} {xs : List V} (h : seqOf σ x = some xs) : lenOf σ x = some xs.length := by
  delta lenOf itemsOf
  cases x <;> simp_all [seqOf, lstOf]
theorem itemV_seq {σ : View} {x : V} {xs : List V} {i : Int} (h : seqOf σ x = some xs) : itemV σ x (.int i) = (idxOf i xs.length).bind fun j => xs[j]? := by
  have e : itemQ σ x i = (idxOf i xs.length).bind fun j => xs[j]? := by unfold itemQ; rw [h]
  cases x with
  | str z => exact nn h
  | _ => exact e
end Mine
end

section

open PySem PyProof.Rows
set_option linter.unusedVariables false
namespace Mine
section
variable {Φ : Spec} {G : Nat → V}
noncomputable def MonS (Φ : Spec) (G : Nat → V) (m : MS) : Prop := ∀ {Q Q' : View → Ls → Prop} {R R' : Post} {σ : View} {ls : Ls}, swp Φ G m Q R σ ls → (∀ σ' ls', Q σ' ls' → Q' σ' ls') → (∀ d σ', R d σ' → R' d σ') → swp Φ G m Q' R' σ ls
noncomputable def MonSs (Φ : Spec) (G : Nat → V) (ms : MSs) : Prop := ∀ {Q Q' : View → Ls → Prop} {R R' : Post} {σ : View} {ls : Ls}, swps Φ G ms Q R σ ls → (∀ σ' ls', Q σ' ls' → Q' σ' ls') → (∀ d σ', R d σ' → R' d σ') → swps Φ G ms Q' R' σ ls
theorem ms_set (hΦ : SpecMono Φ) {o j e : ME} : MonS Φ G (.setSub o j e) := fun h k k' => ewp_mono hΦ e h fun d σ₁ h1 => ewp_mono hΦ o h1 fun x σ₂ h2 => ewp_mono hΦ j h2 fun y σ₃ h => by
  refine Exists.elim h fun a hx => ?_; obtain ⟨j, es, hq0⟩ := hx; exact ⟨a, j, es, hq0.1, hq0.2.1, hq0.2.2.1, hq0.2.2.2.1, k _ _ hq0.2.2.2.2⟩
theorem ms_ite (hΦ : SpecMono Φ) {t : ME} {a b : MSs} (iha : MonSs Φ G a) (ihb : MonSs Φ G b) : MonS Φ G (.ite t a b) := fun h k k' => ewp_mono hΦ t h fun d σ' h => by
  obtain ⟨c, hq0⟩ := h
  refine ⟨c, hq0.1, ?_⟩
  cases c with
  | true => exact iha hq0.2 k k'
  | false => exact ihb hq0.2 k k'
theorem ms_loop (hΦ : SpecMono Φ) {t : ME} {b : MSs} (ihb : MonSs Φ G b) : MonS Φ G (.loop t b) := fun h k k' => by
  refine Exists.elim h ?_; rintro I hq1
  refine ⟨I, hq1.1, fun n σ₁ ls₁ hI => ewp_mono hΦ t (hq1.2 n σ₁ ls₁ hI) fun d σ' h => ?_⟩
  obtain ⟨c, hq0⟩ := h
  refine ⟨c, hq0.1, ?_⟩
  cases c with
  | true => exact ihb hq0.2 (fun _ _ x => x) k'
  | false => exact k _ _ hq0.2
theorem ms_for (hΦ : SpecMono Φ) {i : Tg} {it : MI} {b : MSs} (ihb : MonSs Φ G b) : MonS Φ G (.for1 i it b) := fun h k k' => ewpI_mono hΦ it h fun xs u σ₁ h => by
  refine Exists.elim h ?_; rintro I hq0
  exact ⟨I, hq0.1, fun j v σ₂ ls₂ hv hI => ihb (hq0.2.1 j v σ₂ ls₂ hv hI) (fun _ _ x => x) fun d σ' x => k' _ _ x, fun σ₂ ls₂ hI => k _ _ (hq0.2.2 σ₂ ls₂ hI)⟩
theorem ms_frz {i : Nat} : MonS Φ G (.freeze i) := fun h k k' => by
  refine Exists.elim h fun a hx => ?_; obtain ⟨e, ⟨xs, e1, q⟩ | ⟨xs, e1, q⟩⟩ := hx
  · exact ⟨a, e, .inl ⟨xs, e1, k _ _ q⟩⟩
  · exact ⟨a, e, .inr ⟨xs, e1, k _ _ q⟩⟩
mutual
theorem mon_s (hΦ : SpecMono Φ) : ∀ m : MS, MonS Φ G m
  | .assign _ e => fun h k _ => ewp_mono hΦ e h fun d σ' h' => k _ _ h'
  | .setSub _ _ _ => ms_set hΦ
  | .expr e => fun h k _ => ewp_mono hΦ e h fun d σ' h' => k _ _ h'
  | .ite _ a b => ms_ite hΦ (mon_ss hΦ a) (mon_ss hΦ b)
  | .loop _ b => ms_loop hΦ (mon_ss hΦ b)
  | .for1 _ _ b => ms_for hΦ (mon_ss hΦ b)
  | .ret e => fun h _ k' => ewp_mono hΦ e h k'
  | .freeze _ => ms_frz
theorem mon_ss (hΦ : SpecMono Φ) : ∀ ms : MSs, MonSs Φ G ms
  | .nil => fun h k _ => k _ _ h
  | .cons s r => fun h k k' => mon_s hΦ s h (fun σ' ls' h' => mon_ss hΦ r h' k k') k'
end
theorem swp_mono (hΦ : SpecMono Φ) (m : MS) {Q Q' : View → Ls → Prop} {R R' : Post} {σ : View} {ls : Ls} (h : swp Φ G m Q R σ ls) (k : ∀ σ' ls', Q σ' ls' → Q' σ' ls') (k' : ∀ d σ', R d σ' → R' d σ') : swp Φ G m Q' R' σ ls := mon_s hΦ m h k k'
theorem swps_mono (hΦ : SpecMono Φ) (ms : MSs) {Q Q' : View → Ls → Prop} {R R' : Post} {σ : View} {ls : Ls} (h : swps Φ G ms Q R σ ls) (k : ∀ σ' ls', Q σ' ls' → Q' σ' ls') (k' : ∀ d σ', R d σ' → R' d σ') : swps Φ G ms Q' R' σ ls := mon_ss hΦ ms h k k'
theorem swps_cut (hΦ : SpecMono Φ) {s : MS} {r : MSs} {Q I : View → Ls → Prop} {R : Post} {σ : View} {ls : Ls} (h : swp Φ G s I R σ ls) (k : ∀ σ' ls', I σ' ls' → swps Φ G r Q R σ' ls') : swps Φ G (.cons s r) Q R σ ls :=
  swp_mono hΦ s h k fun _ _ x => x
theorem below_mono {Φ : Spec} (h : SpecMono Φ) (n : Nat) : SpecMono (below Φ n) := fun f vs Q Q' σ x k => ⟨x.1, h f vs Q Q' σ x.2 k⟩
end
end Mine
end

section

open PySem PyProof.Rows
set_option linter.unusedVariables false
set_option linter.unusedSimpArgs false
namespace Mine
/-! more helpers for conditions -/
inductive Dat : Nat → V → Prop
  | none {n : Nat} : Dat n .none
  | bool {n : Nat} (b : Bool) : Dat n (.bool b)
  | int {n : Nat} (i : Int) : Dat n (.int i)
  | str {n : Nat} (s : Str) : Dat n (.str s)
  | tup {n : Nat} {xs : List V} (h : ∀ x ∈ xs, Dat n x) : Dat (n + 1) (.tup xs)
  | lst {n : Nat} {xs : List V} (h : ∀ x ∈ xs, Dat n x) : Dat (n + 1) (.lst xs)
theorem mapM_some {σ : View} {n : Nat} {xs : List V} (h : ∀ x ∈ xs, ∃ a, V.toD σ n x = some a ∧ PyData.eqv a a = true) : ∃ as, xs.mapM (V.toD σ n) = some as ∧ PyData.eqvAll as as = true := by
  induction xs with
  | nil => exact ⟨[], rfl, rfl⟩
  | cons x xs ih =>
    refine Exists.elim (h x (List.mem_cons_self ..)) ?_; rintro a hq0
    obtain ⟨as, h3, h4⟩ := ih fun y hy => h y (List.mem_cons_of_mem _ hy)
    exact ⟨a :: as, by rw [List.mapM_cons, hq0.1, h3]; rfl, Bool.and_eq_true_iff.mpr ⟨hq0.2, h4⟩⟩
theorem Dat.toD {σ : View} {n : Nat} {v : V} (h : Dat n v) : ∃ a, V.toD σ n v = some a ∧ PyData.eqv a a = true := by
  induction h with
  | none => rename_i n; exact ⟨.none, by cases n <;> rfl, rfl⟩
  | bool b => rename_i n; exact ⟨.bool b, by cases n <;> rfl, beq_self_eq_true b⟩
  | int i => rename_i n; exact ⟨.int i, by cases n <;> rfl, beq_self_eq_true i⟩
  | str s => rename_i n; exact ⟨.str s, by cases n <;> rfl, beq_self_eq_true s⟩
  | tup h ih => obtain ⟨as, h1, h2⟩ := mapM_some ih; exact ⟨.tuple as, Option.map_eq_some_iff.mpr ⟨as, h1, rfl⟩, h2⟩
  | lst h ih => obtain ⟨as, h1, h2⟩ := mapM_some ih; exact ⟨.list as, Option.map_eq_some_iff.mpr ⟨as, h1, rfl⟩, h2⟩
theorem eqV_refl {σ : View} {v : V} (h : Dat 20 v) : eqV σ v v = some true := by
  refine Exists.elim (h.toD (σ := σ)) ?_; rintro a hq0
  unfold eqV
  refine hq0.1 ▸ ?_
  exact congrArg some hq0.2
end Mine
end

section

open PySem PyProof.Rows
set_option linter.unusedVariables false
set_option linter.unusedSimpArgs false
namespace Mine
section
variable {Φ : Spec} {G : Nat → V} {Q : View → Ls → Prop} {R : Post} {σ : View} {ls : Ls} {r : MSs}
theorem set_get {ls : Ls} {i j : Nat} {v : V} : (ls.set i v) j = if j = i then some v else ls j := rfl
theorem set_same {ls : Ls} {i : Nat} {v : V} (h : ls i = some v) : ls.set i v = ls := by
  funext j; simp only [set_get]; split
  · next e => simp only [e, h]
  · rfl
theorem set_set {ls : Ls} {i : Nat} {v w : V} : (ls.set i v).set i w = ls.set i w := by
  funext j; simp only [set_get]; split <;> rfl
theorem cut_assign (hM : SpecMono Φ) {i : Nat} {e : ME} (P : V → Prop) (h : ewp Φ G ls e (fun d σ' => σ' = σ ∧ P d) σ) (k : ∀ d, P d → swps Φ G r Q R σ (ls.set i d)) : swps Φ G (.cons (.assign i e) r) Q R σ ls :=
  ewp_mono hM e h fun d σ' h => h.1 ▸ k d h.2
theorem cut_if_assign (hM : SpecMono Φ) {i : Nat} {t e : ME} (P : V → Prop) (h : twp Φ G ls t (fun c σ' => σ' = σ ∧ if c then ewp Φ G ls e (fun d σ' => σ' = σ ∧ P d) σ else ∃ d, ls i = some d ∧ P d) σ) (k : ∀ d, P d → swps Φ G r Q R σ (ls.set i d)) : swps Φ G (.cons (.ite t (.cons (.assign i e) .nil) .nil) r) Q R σ ls := by
  refine ewp_mono hM t h fun d σ' h => ?_
  obtain ⟨b, h1, rfl, h2⟩ := h
  refine ⟨b, h1, ?_⟩
  cases b with
  | true => exact ewp_mono hM e h2 fun d σ' h => h.1 ▸ k d h.2
  | false =>
    obtain ⟨d, hq0⟩ := h2
    exact set_same hq0.1 ▸ k d hq0.2
theorem cut_guard (hM : SpecMono Φ) {t : ME} {a : MSs} (h : twp Φ G ls t (fun c σ' => σ' = σ ∧ c = false) σ) (k : swps Φ G r Q R σ ls) : swps Φ G (.cons (.ite t a .nil) r) Q R σ ls := by
  refine ewp_mono hM t h fun d σ' h => ?_
  obtain ⟨b, h1, rfl, rfl⟩ := h
  exact ⟨_, h1, k⟩
theorem cut_ite_ret (hM : SpecMono Φ) {t e : ME} {b : MSs} (h : twp Φ G ls t (fun c σ' => σ' = σ ∧ c = true) σ) (k : ewp Φ G ls e R σ) : swps Φ G (.cons (.ite t (.cons (.ret e) .nil) b) r) Q R σ ls := by
  refine ewp_mono hM t h fun d σ' h => ?_
  obtain ⟨b, h1, rfl, rfl⟩ := h
  exact ⟨_, h1, k⟩
theorem ewpIfs_mono (hM : SpecMono Φ) (ms : MEs) {ls : Ls} {Q Q' : Bool → View → Prop} {σ : View} (h : ewpIfs Φ G ls ms Q σ) (k : ∀ b σ', Q b σ' → Q' b σ') : ewpIfs Φ G ls ms Q' σ := by
  match ms with
  | .nil => exact k _ _ h
  | .cons e es =>
    refine ewp_mono hM e h fun d σ' h => ?_
    refine Exists.elim h ?_; rintro b hq0
    refine ⟨b, hq0.1, ?_⟩
    cases b with
    | true => exact ewpIfs_mono hM es hq0.2 k
    | false => exact k _ _ hq0.2
/-- a comprehension that keeps what p says and maps by f -/
theorem comp_fm (hM : SpecMono Φ) {elt : ME} {x : Nat} {ifs : MEs} {xs u : List V} {Q : Post} (p : V → Bool) (f : V → V) (hu : lockV σ u = σ) (hu2 : unlockV σ u σ = σ) (hx : xs.length ≤ big)
    (h : ∀ v ∈ xs, ewpIfs Φ G (ls.set x v) ifs (fun b σ₃ => σ₃ = σ ∧ b = p v ∧ (b = true → ewp Φ G (ls.set x v) elt (fun d σ₄ => σ₄ = σ ∧ d = f v) σ)) σ) (hQ : Q (.lst ((xs.filter p).map f)) σ) :
    xs.length ≤ big ∧ ∃ I : Nat → List V → View → Prop, I 0 [] (lockV σ u) ∧
      (∀ k v acc σ₂, xs[k]? = some v → I k acc σ₂ → ewpIfs Φ G (ls.set x v) ifs (fun b σ₃ => if b then ewp Φ G (ls.set x v) elt (fun d σ₄ => I (k + 1) (acc ++ [d]) σ₄) σ₃ else I (k + 1) acc σ₃) σ₂) ∧
      (∀ acc σ₂, I xs.length acc σ₂ → if false = true then ∀ a, unlockV σ u σ₂ a = none → Q (.ref a) ((unlockV σ u σ₂).upd a (.list false acc)) else Q (.lst acc) (unlockV σ u σ₂)) := by
  refine ⟨hx, fun k acc σ' => σ' = σ ∧ acc = ((xs.take k).filter p).map f, ⟨hu, by rfl⟩, ?_, ?_⟩
  · rintro k v acc σ₂ hv ⟨rfl, rfl⟩
    have ht : xs.take (k + 1) = xs.take k ++ [v] := by rw [List.take_add_one, hv]; rfl
    refine ewpIfs_mono hM ifs (h v (List.mem_iff_getElem?.mpr ⟨k, hv⟩)) ?_
    rintro b σ₃ ⟨e1, e2, h3⟩
    cases e1; subst e2
    cases q : p v with
    | true =>
      simp only [q, if_true] at h3 ⊢
      refine ewp_mono hM elt (h3 trivial) ?_
      rintro d σ₄ ⟨e3, e4⟩
      cases e3; subst e4
      exact ⟨rfl, by rw [ht, List.filter_append]; simp [List.filter, q]⟩
    | false =>
      simp only [Bool.false_eq_true, if_false]
      exact ⟨trivial, by rw [ht, List.filter_append]; simp [List.filter, q]⟩
  · rintro acc σ₂ ⟨rfl, rfl⟩
    simp only [Bool.false_eq_true, if_false, List.take_length, hu2]
    exact hQ
theorem comp_m (hM : SpecMono Φ) {elt : ME} {x : Nat} {xs u : List V} {Q : Post} (f : V → V) (hu : lockV σ u = σ) (hu2 : unlockV σ u σ = σ) (hx : xs.length ≤ big)
    (h : ∀ v ∈ xs, ewp Φ G (ls.set x v) elt (fun d σ₄ => σ₄ = σ ∧ d = f v) σ) (hQ : Q (.lst (xs.map f)) σ) :
    xs.length ≤ big ∧ ∃ I : Nat → List V → View → Prop, I 0 [] (lockV σ u) ∧
      (∀ k v acc σ₂, xs[k]? = some v → I k acc σ₂ → ewpIfs Φ G (ls.set x v) .nil (fun b σ₃ => if b then ewp Φ G (ls.set x v) elt (fun d σ₄ => I (k + 1) (acc ++ [d]) σ₄) σ₃ else I (k + 1) acc σ₃) σ₂) ∧
      (∀ acc σ₂, I xs.length acc σ₂ → if false = true then ∀ a, unlockV σ u σ₂ a = none → Q (.ref a) ((unlockV σ u σ₂).upd a (.list false acc)) else Q (.lst acc) (unlockV σ u σ₂)) := by
  have e : xs.filter (fun _ => true) = xs := by simp
  refine comp_fm hM (fun _ => true) f hu hu2 hx (fun v hv => ?_) (((Eq.symm e) ▸ hQ))
  exact ⟨rfl, rfl, fun _ => h v hv⟩
end
end Mine
end

section

open PySem PyProof.Rows
set_option linter.unusedVariables false
set_option linter.unusedSimpArgs false
namespace Mine
/-! what each operation asks, case by case -/
section
variable {Q : Post} {σ : View} {a b : Int} {x y : V} {s t : Str} {xs ys : List V}
theorem it_lst {Qi : List V → List V → View → Prop} : itWp 0 [.lst xs] Qi σ ↔ Qi xs [.lst xs] σ := ⟨fun hx => by obtain ⟨_, e, h⟩ := hx; exact Option.some.inj e ▸ h, fun h => ⟨_, rfl, h⟩⟩
theorem it_tup {Qi : List V → List V → View → Prop} : itWp 0 [.tup xs] Qi σ ↔ Qi xs [.tup xs] σ := ⟨fun hx => by obtain ⟨_, e, h⟩ := hx; exact Option.some.inj e ▸ h, fun h => ⟨_, rfl, h⟩⟩
theorem it_rng {Qi : List V → List V → View → Prop} (h : 0 ≤ a) (h2 : a < 2 ^ 62) : itWp 1 [.int a] Qi σ ↔ Qi ((List.range a.toNat).map fun k => V.int (k : Nat)) [.int a] σ := ⟨fun hx => by obtain ⟨_, e, h3⟩ := hx; exact by rw [itXs_range h h2] at e; exact Option.some.inj e ▸ h3, fun h3 => ⟨_, itXs_range h h2, h3⟩⟩
section
variable {Φ : Spec} {G : Nat → V} {ls : Ls}
/-- a comprehension over frozen things -/
theorem w_comp (hM : SpecMono Φ) {elt e : ME} {x : Nat} {ifs : MEs} {xs : List V} (p : V → Bool) (f : V → V) (he : ewp Φ G ls e (fun d σ' => σ' = σ ∧ (d = .lst xs ∨ d = .tup xs)) σ) (hx : xs.length ≤ big)
    (h : ∀ v ∈ xs, ewpIfs Φ G (ls.set x v) ifs (fun b σ₃ => σ₃ = σ ∧ b = p v ∧ (b = true → ewp Φ G (ls.set x v) elt (fun d σ₄ => σ₄ = σ ∧ d = f v) σ)) σ) (hQ : Q (.lst ((xs.filter p).map f)) σ) : ewp Φ G ls (.comp false elt (.one x) (.seq e) ifs) Q σ := by
  refine ewp_mono (Q' := fun d σ' => itWp 0 [d] _ σ') hM e he ?_
  rintro d σ' ⟨e1, e2⟩
  cases e1
  rcases e2 with rfl | rfl
  · rw [it_lst]; exact comp_fm hM p f rfl rfl hx h hQ
  · rw [it_tup]; exact comp_fm hM p f rfl rfl hx h hQ
theorem w_comp_m (hM : SpecMono Φ) {elt e : ME} {x : Nat} {xs : List V} (f : V → V) (he : ewp Φ G ls e (fun d σ' => σ' = σ ∧ (d = .lst xs ∨ d = .tup xs)) σ) (hx : xs.length ≤ big)
    (h : ∀ v ∈ xs, ewp Φ G (ls.set x v) elt (fun d σ₄ => σ₄ = σ ∧ d = f v) σ) (hQ : Q (.lst (xs.map f)) σ) : ewp Φ G ls (.comp false elt (.one x) (.seq e) .nil) Q σ := by
  refine ewp_mono (Q' := fun d σ' => itWp 0 [d] _ σ') hM e he ?_
  rintro d σ' ⟨e1, e2⟩
  subst e1
  rcases e2 with rfl | rfl
  · rw [it_lst]; exact comp_m hM f rfl rfl hx h hQ
  · rw [it_tup]; exact comp_m hM f rfl rfl hx h hQ
/-- a comprehension over range(n) -/
theorem w_comp_r (hM : SpecMono Φ) {elt e : ME} {x : Nat} {n : Nat} (f : Nat → V) (he : ewp Φ G ls e (fun d σ' => σ' = σ ∧ d = .int n) σ) (hx : n ≤ big)
    (h : ∀ j, j < n → ewp Φ G (ls.set x (.int (j : Nat))) elt (fun d σ₄ => σ₄ = σ ∧ d = f j) σ) (hQ : Q (.lst ((List.range n).map f)) σ) : ewp Φ G ls (.comp false elt (.one x) (.range (.cons e .nil)) .nil) Q σ := by
  refine ewp_mono (Q' := fun d σ' => itWp 1 [d] (fun xs u σ₁ => _) σ') hM e he ?_
  rintro d σ' ⟨e1, e2⟩
  subst e1; subst e2
  rw [it_rng (by (first | lia | omega)) (by unfold big at hx; (first | lia | omega))]
  refine comp_m hM (fun v => match v with | .int j => f j.toNat | _ => .none) rfl rfl (by simp; (first | lia | omega)) (fun v hv => ?_) ?_
  · simp only [List.mem_map] at hv
    obtain ⟨j, hj, rfl⟩ := hv
    simp at hj
    exact h j hj
  · simpa [Function.comp_def] using hQ
end
end
end Mine
end

section

open PySem PyProof.Rows
set_option linter.unusedVariables false
namespace Mine
/-! conditions that compute: what is asked of a value is asked by a match -/
noncomputable def opt {α : Type} (o : Option α) (k : α → Prop) : Prop := match o with
  | some a => k a
  | none => False
theorem opt_ex {α : Type} {o : Option α} {k : α → Prop} (h : opt o k) : ∃ a, o = some a ∧ k a := by
  cases o with
  | none => exact h.elim
  | some a => exact ⟨a, rfl, h⟩
theorem opt_if {α : Type} {p : Prop} [Decidable p] {a : α} {k : α → Prop} (h : p) (hk : k a) : opt (if p then some a else none) k := by rw [if_pos h]; exact hk
theorem opt_of {α : Type} {o : Option α} {a : α} {k : α → Prop} (h : o = some a) (hk : k a) : opt o k := by rw [h]; exact hk
theorem opt_map {α β : Type} {o : Option α} {f : α → β} {a : α} {k : β → Prop} (h : o = some a) (hk : k (f a)) : opt (o.map f) k := (h ▸ hk)
theorem r2 {α β : Type} {a : α} {b : β} : a = a ∧ b = b := ⟨rfl, rfl⟩
noncomputable def isEff : Op → Bool
  | .dict => true
  | .append => true
  | .extend => true
  | .popL => true
  | .popD2 => true
  | .mkListM => true
  | _ => false
noncomputable def cprim (o : Op) (vs : List V) (Q : Post) (σ : View) : Prop := match isEff o with
  | true => prim o vs Q σ
  | false => opt (pureOp o σ vs) fun d => Q d σ
theorem cprim_prim {o : Op} {vs : List V} {Q : Post} {σ : View} (h : cprim o vs Q σ) : prim o vs Q σ := by
  cases o <;> first | exact opt_ex h | exact h
section
variable (Φ : Spec) (G : Nat → V) (ls : Ls)
mutual
noncomputable def cwp : ME → Post → View → Prop
  | .var i, Q, σ => opt (ls i) fun d => Q d σ
  | .lit d, Q, σ => Q d σ
  | .gcon k, Q, σ => Q (G k) σ
  | .op o args, Q, σ => cwps args (fun vs σ' => cprim o vs Q σ') σ
  | .meth o obj args, Q, σ => cwp obj (fun x σ₁ => methOk o x σ₁ ∧ cwps args (fun vs σ₂ => cprim o (x :: vs) Q σ₂) σ₁) σ
  | .and es, Q, σ => cwpAnd es Q σ
  | .or es, Q, σ => cwpOr es Q σ
  | .not e, Q, σ => cwp e (fun d σ' => opt (truthV d) fun b => Q (.bool (!b)) σ') σ
  | .cmp2 o1 o2 a b c, Q, σ => cwp a (fun x σ₁ => cwp b (fun y σ₂ => cprim o1 [x, y] (fun r σ₃ => opt (truthV r) fun t => match t with | true => cwp c (fun z σ₄ => cprim o2 [y, z] Q σ₄) σ₃ | false => Q r σ₃) σ₂) σ₁) σ
  | .call f args, Q, σ => cwps args (fun vs σ' => Φ f vs Q σ') σ
  | e, Q, σ => ewp Φ G ls e Q σ
noncomputable def cwps : MEs → (List V → View → Prop) → View → Prop
  | .nil, Q, σ => Q [] σ
  | .cons e es, Q, σ => cwp e (fun v σ' => cwps es (fun vs σ'' => Q (v :: vs) σ'') σ') σ
noncomputable def cwpAnd : MEs → Post → View → Prop
  | .nil, _, _ => False
  | .cons e es, Q, σ => match es with
    | .nil => cwp e Q σ
    | .cons _ _ => cwp e (fun d σ' => opt (truthV d) fun b => match b with | true => cwpAnd es Q σ' | false => Q d σ') σ
noncomputable def cwpOr : MEs → Post → View → Prop
  | .nil, _, _ => False
  | .cons e es, Q, σ => match es with
    | .nil => cwp e Q σ
    | .cons _ _ => cwp e (fun d σ' => opt (truthV d) fun b => match b with | true => Q d σ' | false => cwpOr es Q σ') σ
end
end
section
variable {Φ : Spec} {G : Nat → V} {ls : Ls}
mutual
theorem cwp_e (hM : SpecMono Φ) : ∀ (m : ME) {Q : Post} {σ : View}, cwp Φ G ls m Q σ → ewp Φ G ls m Q σ
  | .var i, Q, σ, h => opt_ex h
  | .lit d, Q, σ, h => h
  | .gcon k, Q, σ, h => h
  | .op o args, Q, σ, h => ewps_mono (Q' := fun vs σ' => prim o vs Q σ') hM args (cwps_e hM args h) fun _ _ x => cprim_prim x
  | .meth o b args, Q, σ, h => ewp_mono (Q' := fun x σ₁ => methOk o x σ₁ ∧ ewps Φ G ls args (fun vs σ₂ => prim o (x :: vs) Q σ₂) σ₁) hM b (cwp_e hM b h) fun _ _ x => ⟨x.1, ewps_mono hM args (cwps_e hM args x.2) fun _ _ x => cprim_prim x⟩
  | .and es, Q, σ, h => cwpAnd_e hM es h
  | .or es, Q, σ, h => cwpOr_e hM es h
  | .not e, Q, σ, h => ewp_mono (Q' := fun d σ' => ∃ b, truthV d = some b ∧ Q (.bool (!b)) σ') hM e (cwp_e hM e h) fun _ _ x => opt_ex x
  | .cmp2 o1 o2 a b c, Q, σ, h => ewp_mono (Q' := fun x σ₁ => ewp Φ G ls b (fun y σ₂ => prim o1 [x, y] (fun r σ₃ => ∃ t, truthV r = some t ∧ (if t then ewp Φ G ls c (fun z σ₄ => prim o2 [y, z] Q σ₄) σ₃ else Q r σ₃)) σ₂) σ₁) hM a (cwp_e hM a h) fun x σ₁ h =>
      ewp_mono (Q' := fun y σ₂ => prim o1 [x, y] (fun r σ₃ => ∃ t, truthV r = some t ∧ (if t then ewp Φ G ls c (fun z σ₄ => prim o2 [y, z] Q σ₄) σ₃ else Q r σ₃)) σ₂) hM b (cwp_e hM b h) fun y σ₂ h => prim_mono (cprim_prim h) fun r σ₃ h => by
        obtain ⟨t, h1, h2⟩ := opt_ex h
        refine ⟨t, h1, ?_⟩
        cases t with
        | true => exact ewp_mono hM c (cwp_e hM c h2) fun z σ₄ h => cprim_prim h
        | false => exact h2
  | .call f args, Q, σ, h => cwps_e hM args h
  | .dict _ _ _, Q, σ, h => h
  | .comp _ _ _ _ _, Q, σ, h => h
  | .frz _, Q, σ, h => h
theorem cwps_e (hM : SpecMono Φ) : ∀ (ms : MEs) {Q : List V → View → Prop} {σ : View}, cwps Φ G ls ms Q σ → ewps Φ G ls ms Q σ
  | .nil, Q, σ, h => h
  | .cons e es, Q, σ, h => ewp_mono (Q' := fun v σ' => ewps Φ G ls es (fun vs σ'' => Q (v :: vs) σ'') σ') hM e (cwp_e hM e h) fun _ _ x => cwps_e hM es x
theorem cwpAnd_e (hM : SpecMono Φ) : ∀ (ms : MEs) {Q : Post} {σ : View}, cwpAnd Φ G ls ms Q σ → ewpAnd Φ G ls ms Q σ
  | .nil, Q, σ, h => h
  | .cons e .nil, Q, σ, h => cwp_e hM e h
  | .cons e (.cons e2 es), Q, σ, h => ewp_mono (Q' := fun d σ' => ∃ b, truthV d = some b ∧ (if b then ewpAnd Φ G ls (.cons e2 es) Q σ' else Q d σ')) hM e (cwp_e hM e h) fun d σ' x => by
    obtain ⟨b, h1, h2⟩ := opt_ex x
    refine ⟨b, h1, ?_⟩
    cases b with
    | true => exact cwpAnd_e hM (.cons e2 es) h2
    | false => exact h2
theorem cwpOr_e (hM : SpecMono Φ) : ∀ (ms : MEs) {Q : Post} {σ : View}, cwpOr Φ G ls ms Q σ → ewpOr Φ G ls ms Q σ
  | .nil, Q, σ, h => h
  | .cons e .nil, Q, σ, h => cwp_e hM e h
  | .cons e (.cons e2 es), Q, σ, h => ewp_mono (Q' := fun d σ' => ∃ b, truthV d = some b ∧ (if b then Q d σ' else ewpOr Φ G ls (.cons e2 es) Q σ')) hM e (cwp_e hM e h) fun d σ' x => by
    obtain ⟨b, h1, h2⟩ := opt_ex x
    refine ⟨b, h1, ?_⟩
    cases b with
    | true => exact h2
    | false => exact cwpOr_e hM (.cons e2 es) h2
end
noncomputable def ctwp (Φ : Spec) (G : Nat → V) (ls : Ls) (e : ME) (Q : Bool → View → Prop) (σ : View) : Prop := cwp Φ G ls e (fun d σ' => opt (truthV d) fun b => Q b σ') σ
theorem ctwp_t (hM : SpecMono Φ) {e : ME} {Q : Bool → View → Prop} {σ : View} (h : ctwp Φ G ls e Q σ) : twp Φ G ls e Q σ := ewp_mono (Q' := fun d σ' => ∃ b, truthV d = some b ∧ Q b σ') hM e (cwp_e hM e h) fun _ _ x => opt_ex x
/-! cuts -/
variable {Q : View → Ls → Prop} {R : Post} {σ : View} {r : MSs}
theorem c_assign (hM : SpecMono Φ) {i : Nat} {e : ME} (P : V → Prop) (h : cwp Φ G ls e (fun d σ' => σ' = σ ∧ P d) σ) (k : ∀ d, P d → swps Φ G r Q R σ (ls.set i d)) : swps Φ G (.cons (.assign i e) r) Q R σ ls := cut_assign hM P (cwp_e hM e h) k
theorem swps_at {σ' : View} (e : σ = σ') (h : swps Φ G r Q R σ' ls) : swps Φ G r Q R σ ls := by rw [e]; exact h
theorem c_let (hM : SpecMono Φ) {i : Nat} {e : ME} {v : V} (h : cwp Φ G ls e (fun d σ' => σ' = σ ∧ d = v) σ) (k : swps Φ G r Q R σ (ls.set i v)) : swps Φ G (.cons (.assign i e) r) Q R σ ls := c_assign hM (fun d => d = v) h (by rintro _ rfl; exact k)
theorem c_if_assign (hM : SpecMono Φ) {i : Nat} {t e : ME} (P : V → Prop) (h : ctwp Φ G ls t (fun c σ' => σ' = σ ∧ match c with | true => cwp Φ G ls e (fun d σ' => σ' = σ ∧ P d) σ | false => opt (ls i) P) σ) (k : ∀ d, P d → swps Φ G r Q R σ (ls.set i d)) : swps Φ G (.cons (.ite t (.cons (.assign i e) .nil) .nil) r) Q R σ ls := by
  refine cut_if_assign hM P (ewp_mono hM t (ctwp_t hM h) ?_) k
  rintro d σ' ⟨b, h1, h2, h3⟩
  refine ⟨b, h1, h2, ?_⟩
  cases b with
  | true => exact cwp_e hM e h3
  | false => exact opt_ex h3
theorem c_guard (hM : SpecMono Φ) {t : ME} {a : MSs} (h : ctwp Φ G ls t (fun c σ' => σ' = σ ∧ c = false) σ) (k : swps Φ G r Q R σ ls) : swps Φ G (.cons (.ite t a .nil) r) Q R σ ls := cut_guard hM (ctwp_t hM h) k
theorem c_ite_ret (hM : SpecMono Φ) {t e : ME} {b : MSs} (h : ctwp Φ G ls t (fun c σ' => σ' = σ ∧ c = true) σ) (k : cwp Φ G ls e R σ) : swps Φ G (.cons (.ite t (.cons (.ret e) .nil) b) r) Q R σ ls := cut_ite_ret hM (ctwp_t hM h) (cwp_e hM e k)
theorem c_ret (hM : SpecMono Φ) {e : ME} (k : cwp Φ G ls e R σ) : swps Φ G (.cons (.ret e) r) Q R σ ls := cwp_e hM e k
theorem c_expr (hM : SpecMono Φ) {e : ME} (k : cwp Φ G ls e (fun _ σ' => swps Φ G r Q R σ' ls) σ) : swps Φ G (.cons (.expr e) r) Q R σ ls := cwp_e hM e k
theorem c_set (hM : SpecMono Φ) {o k e : ME} (h : cwp Φ G ls e (fun d σ₁ => cwp Φ G ls o (fun x σ₂ => cwp Φ G ls k (fun y σ₃ => ∃ a j es, x = .ref a ∧ y = .int j ∧ σ₃ a = some (.dict false es) ∧ es.length < big ∧ swps Φ G r Q R (σ₃.upd a (.dict false (putD j d es))) ls) σ₂) σ₁) σ) : swps Φ G (.cons (.setSub o k e) r) Q R σ ls :=
  ewp_mono hM e (cwp_e hM e h) fun _ _ x => ewp_mono hM o (cwp_e hM o x) fun _ _ y => cwp_e hM k y
theorem c_setd (hM : SpecMono Φ) {o k e : ME} {v : V} {a : Addr} {j : Int} {es : List (Int × V)} {σ' : View} (he : cwp Φ G ls e (fun d σ' => σ' = σ ∧ d = v) σ) (ho : cwp Φ G ls o (fun x σ' => σ' = σ ∧ x = .ref a) σ) (hk : cwp Φ G ls k (fun y σ' => σ' = σ ∧ y = .int j) σ) (hσ : σ a = some (.dict false es)) (hl : es.length < big) (hx : σ.upd a (.dict false (putD j v es)) = σ') (h : swps Φ G r Q R σ' ls) : swps Φ G (.cons (.setSub o k e) r) Q R σ ls := by
  subst hx
  refine ewp_mono hM e (cwp_e hM e he) ?_
  rintro _ _ ⟨rfl, rfl⟩
  refine ewp_mono hM o (cwp_e hM o ho) ?_
  rintro _ _ ⟨rfl, rfl⟩
  refine ewp_mono hM k (cwp_e hM k hk) ?_
  rintro _ _ ⟨rfl, rfl⟩
  exact ⟨a, j, es, rfl, rfl, hσ, hl, h⟩
theorem c_push (hM : SpecMono Φ) {o : Nat} {e : ME} {v : V} {b : Addr} {xs : List V} {σ' : View} (ho : ls o = some (.ref b)) (he : cwp Φ G ls e (fun d σ' => σ' = σ ∧ d = v) σ) (hσ : σ b = some (.list false xs)) (hl : xs.length < big) (hx : σ.upd b (.list false (xs ++ [v])) = σ') (h : swps Φ G r Q R σ' ls) : swps Φ G (.cons (.expr (.meth .append (.var o) (.cons e .nil))) r) Q R σ ls := by
  subst hx
  refine ⟨_, ho, ⟨b, false, xs, rfl, hσ⟩, ?_⟩
  refine ewp_mono hM e (cwp_e hM e he) ?_
  rintro _ _ ⟨rfl, rfl⟩
  exact ⟨xs, hσ, hl, h⟩
theorem c_newl (hM : SpecMono Φ) {i : Nat} {args : MEs} {xs : List V} (he : cwps Φ G ls args (fun vs σ' => σ' = σ ∧ vs = xs) σ) (hl : xs.length ≤ 1000) (k : ∀ b, σ b = none → swps Φ G r Q R (σ.upd b (.list false xs)) (ls.set i (.ref b))) : swps Φ G (.cons (.assign i (.op .mkListM args)) r) Q R σ ls := by
  refine ewps_mono (Q' := fun vs σ' => prim .mkListM vs (fun d σ'' => swps Φ G r Q R σ'' (ls.set i d)) σ') hM _ (cwps_e hM _ he) ?_
  rintro _ _ ⟨rfl, rfl⟩
  exact ⟨hl, k⟩
theorem c_ite (hM : SpecMono Φ) {t : ME} {A B : MSs} (c : Bool) (h : ctwp Φ G ls t (fun x σ' => σ' = σ ∧ x = c) σ) (k : swps Φ G (match c with | true => A | false => B) (fun σ' ls' => swps Φ G r Q R σ' ls') R σ ls) : swps Φ G (.cons (.ite t A B) r) Q R σ ls := by
  refine ewp_mono hM t (ctwp_t hM h) ?_
  rintro _ _ ⟨b, h1, rfl, rfl⟩
  refine ⟨b, h1, ?_⟩
  cases b with
  | true => exact k
  | false => exact k
theorem c_ite_let (hM : SpecMono Φ) {i : Nat} {t e1 e2 : ME} {v : V} (h : ctwp Φ G ls t (fun x σ' => σ' = σ ∧ cwp Φ G ls (match x with | true => e1 | false => e2) (fun d σ' => σ' = σ ∧ d = v) σ) σ) (k : swps Φ G r Q R σ (ls.set i v)) : swps Φ G (.cons (.ite t (.cons (.assign i e1) .nil) (.cons (.assign i e2) .nil)) r) Q R σ ls := by
  refine ewp_mono hM t (ctwp_t hM h) ?_
  rintro _ _ ⟨b, h1, rfl, h2⟩
  refine ⟨b, h1, ?_⟩
  cases b with
  | true => exact c_let (r := .nil) hM h2 k
  | false => exact c_let (r := .nil) hM h2 k
theorem c_pop {i o : Nat} {b : Addr} {xs : List V} {x : V} {σ' : View} (ho : ls o = some (.ref b)) (hσ : σ b = some (.list false (xs ++ [x]))) (hx : σ.upd b (.list false xs) = σ') (h : swps Φ G r Q R σ' (ls.set i x)) : swps Φ G (.cons (.assign i (.meth .popL (.var o) .nil)) r) Q R σ ls := by
  subst hx
  exact ⟨_, ho, ⟨b, false, _, rfl, hσ⟩, xs, x, hσ, h⟩
theorem c_any (hM : SpecMono Φ) {i : Nat} {e : ME} (h : cwp Φ G ls e (fun d σ' => swps Φ G r Q R σ' (ls.set i d)) σ) : swps Φ G (.cons (.assign i e) r) Q R σ ls := cwp_e hM e h
theorem c_for_r (hM : SpecMono Φ) {i : Nat} {e : ME} {b : MSs} {n : Int} (I : Nat → View → Ls → Prop) (he : cwp Φ G ls e (fun d σ' => σ' = σ ∧ d = .int n) σ) (h0 : 0 ≤ n) (h1 : n < 2 ^ 62) (hI : I 0 σ ls)
    (hs : ∀ k, k < n.toNat → ∀ σ₂ ls₂, I k σ₂ ls₂ → swps Φ G b (fun σ₃ ls₃ => I (k + 1) σ₃ ls₃) R σ₂ (ls₂.set i (.int (k : Nat)))) (hk : ∀ σ₂ ls₂, I n.toNat σ₂ ls₂ → swps Φ G r Q R σ₂ ls₂) : swps Φ G (.cons (.for1 (.one i) (.range (.cons e .nil)) b) r) Q R σ ls := by
  refine ewp_mono (Q' := fun d σ' => itWp 1 [d] (fun xs u σ₁ => _) σ') hM e (cwp_e hM e he) ?_
  rintro d σ' ⟨e1, e2⟩
  subst e1; subst e2
  rw [it_rng h0 h1]
  refine ⟨I, hI, fun k v σ₂ ls₂ hv hk2 => ?_, fun σ₂ ls₂ h => ?_⟩
  · obtain ⟨hk3, rfl⟩ := range_get hv
    exact hs k hk3 σ₂ ls₂ hk2
  · rw [List.length_map, List.length_range] at h; exact hk σ₂ ls₂ h
theorem c_for_l (hM : SpecMono Φ) {i : Nat} {e : ME} {b : MSs} {xs : List V} (I : Nat → View → Ls → Prop) (he : cwp Φ G ls e (fun d σ' => σ' = σ ∧ (d = .lst xs ∨ d = .tup xs)) σ) (hI : I 0 σ ls)
    (hs : ∀ k v, xs[k]? = some v → ∀ σ₂ ls₂, I k σ₂ ls₂ → swps Φ G b (fun σ₃ ls₃ => I (k + 1) σ₃ ls₃) R σ₂ (ls₂.set i v)) (hk : ∀ σ₂ ls₂, I xs.length σ₂ ls₂ → swps Φ G r Q R σ₂ ls₂) : swps Φ G (.cons (.for1 (.one i) (.seq e) b) r) Q R σ ls := by
  refine ewp_mono (Q' := fun d σ' => itWp 0 [d] (fun xs u σ₁ => _) σ') hM e (cwp_e hM e he) ?_
  rintro d σ' ⟨e1, e2⟩
  subst e1
  rcases e2 with rfl | rfl
  · rw [it_lst]; exact ⟨I, hI, fun k v σ₂ ls₂ hv h => hs k v hv σ₂ ls₂ h, hk⟩
  · rw [it_tup]; exact ⟨I, hI, fun k v σ₂ ls₂ hv h => hs k v hv σ₂ ls₂ h, hk⟩
theorem rangeL1 (lo hi : Int) : rangeL lo hi 1 = (List.range (hi - lo).toNat).map fun (k : Nat) => lo + (k : Int) := rfl
theorem c_for_r2 (hM : SpecMono Φ) {i : Nat} {e1 e2 : ME} {b : MSs} {lo hi : Int} (I : Nat → View → Ls → Prop) (he : cwps Φ G ls (.cons e1 (.cons e2 .nil)) (fun vs σ' => σ' = σ ∧ vs = [.int lo, .int hi]) σ) (h1 : smallI lo = true) (h2 : smallI hi = true) (hI : I 0 σ ls)
    (hs : ∀ k : Nat, k < (hi - lo).toNat → ∀ σ₂ ls₂, I k σ₂ ls₂ → swps Φ G b (fun σ₃ ls₃ => I (k + 1) σ₃ ls₃) R σ₂ (ls₂.set i (.int (lo + (k : Int))))) (hk : ∀ σ₂ ls₂, I (hi - lo).toNat σ₂ ls₂ → swps Φ G r Q R σ₂ ls₂) : swps Φ G (.cons (.for1 (.one i) (.range (.cons e1 (.cons e2 .nil))) b) r) Q R σ ls := by
  refine ewps_mono (Q' := fun vs σ' => itWp 1 vs (fun xs u σ₁ => _) σ') hM _ (cwps_e hM _ he) ?_
  rintro vs σ' ⟨e1, e2⟩
  subst e1; subst e2
  have e : rangeXs [.int lo, .int hi] = some ((List.range (hi - lo).toNat).map fun (k : Nat) => V.int (lo + (k : Int))) := by
    show (if (smallI lo && smallI hi) = true then some ((rangeL lo hi 1).map V.int) else none) = _
    simp only [h1, h2, rangeL1, List.map_map]; rfl
  refine ⟨_, e, I, hI, fun k v σ₂ ls₂ hv hk2 => ?_, fun σ₂ ls₂ h => ?_⟩
  · rw [List.getElem?_map, Option.map_eq_some_iff] at hv
    obtain ⟨j, hj, rfl⟩ := hv
    obtain ⟨hj1, hj2⟩ := List.getElem?_eq_some_iff.mp hj
    simp only [List.length_range, List.getElem_range] at hj1 hj2
    subst hj2
    exact hs k hj1 σ₂ ls₂ hk2
  · rw [List.length_map, List.length_range] at h; exact hk σ₂ ls₂ h
theorem c_for_d (hM : SpecMono Φ) {i : Nat} {e : ME} {b : MSs} {ds : List (Int × V)} (I : Nat → View → Ls → Prop) (he : cwp Φ G ls e (fun d σ' => σ' = σ ∧ d = .dct ds) σ) (hI : I 0 σ ls)
    (hs : ∀ k p, ds[k]? = some p → ∀ σ₂ ls₂, I k σ₂ ls₂ → swps Φ G b (fun σ₃ ls₃ => I (k + 1) σ₃ ls₃) R σ₂ (ls₂.set i (.int p.1))) (hk : ∀ σ₂ ls₂, I ds.length σ₂ ls₂ → swps Φ G r Q R σ₂ ls₂) : swps Φ G (.cons (.for1 (.one i) (.seq e) b) r) Q R σ ls := by
  refine ewp_mono (Q' := fun d σ' => itWp 0 [d] (fun xs u σ₁ => _) σ') hM e (cwp_e hM e he) ?_
  rintro d σ' ⟨e1, e2⟩
  subst e1; subst e2
  refine ⟨_, (show itXs 0 σ' [.dct ds] = some (ds.map fun p => V.int p.1) from rfl), I, hI, fun k v σ₂ ls₂ hv h => ?_, fun σ₂ ls₂ h => ?_⟩
  · rw [List.getElem?_map, Option.map_eq_some_iff] at hv
    obtain ⟨p, hp, rfl⟩ := hv
    exact hs k p hp σ₂ ls₂ h
  · rw [List.length_map] at h; exact hk σ₂ ls₂ h
theorem c_for_x (hM : SpecMono Φ) {i : Nat} {e : ME} {b : MSs} (P : List V → Prop) (he : cwp Φ G ls e (fun d σ' => σ' = σ ∧ ∃ xs, d = .lst xs ∧ P xs) σ)
    (hk : ∀ xs, P xs → ∃ I : Nat → View → Ls → Prop, I 0 σ ls ∧ (∀ k v, xs[k]? = some v → ∀ σ₂ ls₂, I k σ₂ ls₂ → swps Φ G b (fun σ₃ ls₃ => I (k + 1) σ₃ ls₃) R σ₂ (ls₂.set i v)) ∧ ∀ σ₂ ls₂, I xs.length σ₂ ls₂ → swps Φ G r Q R σ₂ ls₂) : swps Φ G (.cons (.for1 (.one i) (.seq e) b) r) Q R σ ls := by
  refine ewp_mono (Q' := fun d σ' => itWp 0 [d] (fun xs u σ₁ => _) σ') hM e (cwp_e hM e he) ?_
  rintro d σ' ⟨e1, xs, e2, hp⟩
  subst e1; subst e2
  refine Exists.elim (hk xs hp) ?_; rintro I hq0
  rw [it_lst]; exact ⟨I, hq0.1, fun k v σ₂ ls₂ hv h => hq0.2.1 k v hv σ₂ ls₂ h, hq0.2.2⟩
/-- a loop by a relation that ends -/
theorem c_loop (hM : SpecMono Φ) {t : ME} {b : MSs} (I : Nat → View → Ls → Prop) (h0 : ∃ n, I n σ ls)
    (h : ∀ n σ₁ ls₁, I n σ₁ ls₁ → ctwp Φ G ls₁ t (fun c σ₂ => match c with | true => swps Φ G b (fun σ₃ ls₃ => ∃ m, m < n ∧ I m σ₃ ls₃) R σ₂ ls₁ | false => swps Φ G r Q R σ₂ ls₁) σ₁) : swps Φ G (.cons (.loop t b) r) Q R σ ls := by
  refine ⟨I, h0, fun n σ₁ ls₁ hI => ewp_mono hM t (ctwp_t hM (h n σ₁ ls₁ hI)) ?_⟩
  rintro d σ' ⟨c, h1, h2⟩
  refine ⟨c, h1, ?_⟩
  cases c with
  | true => exact h2
  | false => exact h2
/-- a comprehension whose items all have a property -/
theorem comp_P {elt : ME} {t : Tg} {xs u : List V} {Qp : Post} (P : V → Prop) (hu : lockV σ u = σ ∧ unlockV σ u σ = σ) (hb : xs.length ≤ big) (h : ∀ (k : Nat) v, xs[k]? = some v → ewp Φ G (t.up v ls) elt (fun d σ₄ => σ₄ = σ ∧ P d) σ) (hM : SpecMono Φ)
    (hQ : ∀ l : List V, l.length = xs.length → (∀ x ∈ l, P x) → Qp (.lst l) σ) : xs.length ≤ big ∧ ∃ I : Nat → List V → View → Prop, I 0 [] (lockV σ u) ∧
      (∀ k v acc σ₂, xs[k]? = some v → I k acc σ₂ → ewpIfs Φ G (t.up v ls) .nil (fun b σ₃ => if b then ewp Φ G (t.up v ls) elt (fun d σ₄ => I (k + 1) (acc ++ [d]) σ₄) σ₃ else I (k + 1) acc σ₃) σ₂) ∧
      (∀ acc σ₂, I xs.length acc σ₂ → if false then ∀ a, unlockV σ u σ₂ a = none → Qp (.ref a) ((unlockV σ u σ₂).upd a (.list false acc)) else Qp (.lst acc) (unlockV σ u σ₂)) := by
  refine ⟨hb, fun k acc σ₂ => σ₂ = σ ∧ acc.length = k ∧ ∀ x ∈ acc, P x, ⟨hu.1, rfl, fun _ h => ((List.not_mem_nil h).elim)⟩, fun k v acc σ₂ hv hI => ?_, fun acc σ₂ hI => ?_⟩
  · obtain ⟨rfl, hq1⟩ := hI
    refine ewp_mono hM elt (h k v hv) fun d σ₄ hd => ⟨hd.1, by rw [List.length_append, hq1.1]; rfl, fun x hx => ?_⟩
    rcases List.mem_append.mp hx with hx | hx
    · exact hq1.2 x hx
    · cases hx with
      | head => exact hd.2
      | tail _ h => cases h
  · obtain ⟨rfl, hq0⟩ := hI
    show Qp (.lst acc) (unlockV σ₂ u σ₂)
    simp only [hu.2]; exact hQ acc hq0.1 hq0.2
theorem w_comp_rP (hM : SpecMono Φ) {e elt : ME} {x : Nat} {n : Nat} {Qp : Post} (P : V → Prop) (he : cwp Φ G ls e (fun d σ' => σ' = σ ∧ d = .int n) σ) (hb : n ≤ big) (h : ∀ k : Nat, k < n → ewp Φ G (ls.set x (.int k)) elt (fun d σ₄ => σ₄ = σ ∧ P d) σ)
    (hQ : ∀ l : List V, l.length = n → (∀ x ∈ l, P x) → Qp (.lst l) σ) : ewp Φ G ls (.comp false elt (.one x) (.range (.cons e .nil)) .nil) Qp σ := by
  refine ewp_mono (Q' := fun d σ' => itWp 1 [d] (fun xs u σ₁ => _) σ') hM e (cwp_e hM e he) ?_
  rintro d σ' ⟨e1, e2⟩
  subst e1; subst e2
  rw [it_rng (by (first | lia | omega)) (by unfold big at hb; (first | lia | omega))]
  refine comp_P P ⟨rfl, rfl⟩ (by simpa using hb) (fun k v hv => ?_) hM fun l h1 h2 => hQ l (by rw [h1]; simp) h2
  obtain ⟨hk, rfl⟩ := range_get hv
  exact h k (by simpa using hk)
end
/-! values that compute -/
theorem r_opt {α : Type} {a : α} {k : α → Prop} : opt (some a) k = k a := rfl
theorem r_on1 {f : V → Option V} {x : V} : on1 f [x] = f x := rfl
theorem r_on2 {f : V → V → Option V} {x y : V} : on2 f [x, y] = f x y := rfl
theorem r_on3 {f : V → V → V → Option V} {x y z : V} : on3 f [x, y, z] = f x y z := rfl
theorem r_int1 {f : Int → Option V} {a : Int} : int1 f (.int a) = f a := rfl
theorem r_bool1 {f : Bool → Option V} {a : Bool} : bool1 f (.bool a) = f a := rfl
theorem r_str1 {f : Str → Option V} {a : Str} : str1 f (.str a) = f a := rfl
theorem r_tr {a : Bool} : truthV (.bool a) = some a := rfl
theorem r_map {α β : Type} {a : α} {f : α → β} : Option.map f (some a) = some (f a) := rfl
theorem r_eq_i {σ : View} {a b : Int} : eqV σ (.int a) (.int b) = some (decide (a = b)) := rfl
theorem r_eq_s {σ : View} {a b : Str} : eqV σ (.str a) (.str b) = some (decide (a = b)) := rfl
theorem r_ord_i {f : Int → Int → Bool} {g : Str → Str → Bool} {a b : Int} : ordV f g [.int a, .int b] = some (.bool (f a b)) := rfl
theorem r_ord_s {f : Int → Int → Bool} {g : Str → Str → Bool} {a b : Str} : ordV f g [.str a, .str b] = some (.bool (g a b)) := rfl
theorem r_add_i {σ : View} {a b : Int} : addV σ (.int a) (.int b) = some (.int (a + b)) := rfl
theorem r_mul_i {σ : View} {a b : Int} : mulV σ (.int a) (.int b) = if mulFits a b then some (.int (a * b)) else none := rfl
theorem r_len_l {σ : View} {xs : List V} : lenOf σ (.lst xs) = some xs.length := rfl
theorem r_len_t {σ : View} {xs : List V} : lenOf σ (.tup xs) = some xs.length := rfl
theorem r_li_l {σ : View} {xs : List V} : listItems σ (.lst xs) = some xs := rfl
theorem r_li_t {σ : View} {xs : List V} : listItems σ (.tup xs) = some xs := rfl
theorem r_sq_l {σ : View} {xs : List V} : seqOf σ (.lst xs) = some xs := rfl
theorem r_sq_t {σ : View} {xs : List V} : seqOf σ (.tup xs) = some xs := rfl
theorem r_it_l {σ : View} {xs : List V} {i : Int} : itemV σ (.lst xs) (.int i) = (idxOf i xs.length).bind fun j => xs[j]? := rfl
theorem r_it_t {σ : View} {xs : List V} {i : Int} : itemV σ (.tup xs) (.int i) = (idxOf i xs.length).bind fun j => xs[j]? := rfl
theorem r_it_d {σ : View} {es : List (Int × V)} {k : Int} : itemV σ (.dct es) (.int k) = lookD k es := rfl
theorem r_in_d {σ : View} {es : List (Int × V)} {k : Int} : inV σ (.int k) (.dct es) = some (lookD k es).isSome := rfl
theorem r_len_d {σ : View} {es : List (Int × V)} : lenOf σ (.dct es) = some (es.map fun p => V.int p.1).length := rfl
theorem r_it_t0 {σ : View} {x : V} {xs : List V} : itemV σ (.tup (x :: xs)) (.int 0) = some x := by
  simp only [r_it_t, show idxOf 0 (x :: xs).length = some 0 from idxOf_nat (n := 0) (by simp)]; rfl
noncomputable def es (l : List ME) : MEs := l.foldr .cons .nil
noncomputable def ss (l : List MS) : MSs := l.foldr .cons .nil
end Mine
end

section
open PySem PySem.W PySem.Calls PyProof.Rows
set_option maxRecDepth 100000
namespace Mine
local macro_rules | `(tactic| sizeOf_list_dec) => `(tactic| repeat (first | dsimp only [ctwp, cwp, cwps, cwpAnd, cwpOr, cprim, isEff, r_opt, pureOp, r_on1, r_on2, r_on3, r_int1, int2, r_bool1, r_str1, es, ss, List.foldr, set_get, argLs, r_tr, r_eq_i, r_eq_s, r_ord_i, r_ord_s, r_add_i, r_mul_i, r_len_l, r_len_t, r_li_l, r_li_t, r_sq_l, r_sq_t, r_it_l, r_it_t, r_it_d, r_in_d, r_len_d, r_map, List.getElem?_cons_zero, List.getElem?_cons_succ, ↓reduceIte, Nat.reduceEqDiff, Int.toNat] | refine opt_if (by decide) ?_ | refine opt_of (o := ite _ _ _) rfl ?_ | refine opt_of (o := Option.bind _ _) rfl ?_))
section

open PySem PyProof.Rows
set_option linter.unusedVariables false
set_option linter.unusedSimpArgs false
/-- values that are their own story: no objects of the view -/
noncomputable def plainV : V → Bool
  | .ref _ => false
  | _ => true
noncomputable def isTupF : V → Bool
  | .tup _ => true
  | _ => false
noncomputable def isStrF : V → Bool
  | .str _ => true
  | _ => false
noncomputable def isLstF : V → Bool
  | .lst _ => true
  | _ => false
theorem ty_tup {σ : View} {v : V} (h : plainV v = true) : isTypeV σ "tuple" v = some (isTupF v) := by
  cases v <;> first | rfl | exact ff h
theorem ty_str {σ : View} {v : V} (h : plainV v = true) : isTypeV σ "str" v = some (isStrF v) := by
  cases v <;> first | rfl | exact ff h
theorem ty_lst {σ : View} {v : V} (h : plainV v = true) : isTypeV σ "list" v = some (isLstF v) := by
  cases v <;> first | rfl | exact ff h
noncomputable def isIntF : V → Bool
  | .int _ => true
  | .bool _ => true
  | _ => false
noncomputable def isBoolF : V → Bool
  | .bool _ => true
  | _ => false
theorem ty_int {σ : View} {v : V} (h : plainV v = true) : isTypeV σ "int" v = some (isIntF v) := by
  cases v <;> first | rfl | exact ff h
theorem ty_bool {σ : View} {v : V} (h : plainV v = true) : isTypeV σ "bool" v = some (isBoolF v) := by
  cases v <;> first | rfl | exact ff h
noncomputable def cellAt (ks : List Int) (k : Nat) : Int := ks.getD k 0
/-- _law_cell_at, in every law -/
noncomputable def mCell : MSs := ss [.ite (.op .lt (es [.var 1, .op .len (es [.var 0])])) (ss [.ret (.op .item (es [.var 0, .var 1]))]) (ss []), .ret (.lit (.int 0))]
noncomputable def cellS (xs : List V) (Q : Post) (σ : View) : Prop := ∃ (ks : List Int) (k : Int), xs = [.lst (ks.map .int), .int k] ∧ 0 ≤ k ∧ ks.length ≤ 63 ∧ Q (.int (cellAt ks k.toNat)) σ
theorem cellS_mono {xs : List V} {Q Q' : Post} {σ : View} (h : cellS xs Q σ) (k : ∀ d σ', Q d σ' → Q' d σ') : cellS xs Q' σ := let ⟨ks, j, h1, h2, h3, h4⟩ := h; ⟨ks, j, h1, h2, h3, k _ _ h4⟩
theorem cellS_ok (Φ : Spec) (hM : SpecMono Φ) (Gc : Nat → V) {xs : List V} {Q : Post} {σ : View} (h : cellS xs Q σ) : xs.length = 2 ∧ swps Φ Gc mCell (fun σ' _ => Q .none σ') Q σ (argLs xs) := by
  refine Exists.elim h fun ks hx => ?_; obtain ⟨k, rfl, h0, hl, h⟩ := hx
  refine ⟨rfl, ?_⟩
  skip
  skip
  have e : (ks.map V.int).length = ks.length := List.length_map _
  by_cases q : k < (ks.length : Int)
  · refine c_ite_ret hM ?_ ?_
    · sizeOf_list_dec
      rw [e]; exact ⟨rfl, decide_eq_true q⟩
    · sizeOf_list_dec
      refine opt_of (a := .int (cellAt ks k.toNat)) ?_ h
      simp only [e, idxOf_pos h0 q]
      show (ks.map V.int)[k.toNat]? = _
      have hk : k.toNat < ks.length := by lia
      simp only [List.getElem?_map, List.getElem?_eq_getElem hk]
      unfold cellAt
      simp only [List.getD_eq_getElem?_getD, List.getElem?_eq_getElem hk]; rfl
  · refine c_guard hM ?_ ?_
    · sizeOf_list_dec
      rw [e]; exact ⟨rfl, decide_eq_false q⟩
    have : cellAt ks k.toNat = 0 := by unfold cellAt; rw [List.getD_eq_getElem?_getD, List.getElem?_eq_none (by lia)]; rfl
    rw [this] at h
    exact c_ret hM h
theorem sliceL_take {α : Type} {xs : List α} {b : Int} (h : 0 ≤ b) : sliceL xs 0 (some b) = xs.take b.toNat := by
  have : clipI xs.length 0 = 0 := by rfl
  unfold sliceL; simp only [this]; simp [clipI]
  rw [if_neg (by (first | lia | omega))]; (first | lia | omega)
theorem sliceL_drop {α : Type} {xs : List α} {a : Int} (h : 0 ≤ a) : sliceL xs a none = xs.drop a.toNat := by
  unfold sliceL; simp [clipI]
  rw [if_neg (by (first | lia | omega))]; (first | lia | omega)
end

section

open PySem PyProof.Rows
set_option linter.unusedVariables false
set_option linter.unusedSimpArgs false
/-! dicts as lists of entries -/
noncomputable def keysD {α : Type} (es : List (Int × α)) : List Int := es.map (·.1)
section
variable {α : Type} {es : List (Int × α)} {j k : Int} {v w : α}
theorem lookD_put : lookD j (putD k v es) = if j = k then some v else lookD j es := by
  induction es with
  | nil => dsimp only [putD, lookD]; by_cases q : j = k <;> simp [q, eq_comm]
  | cons p es ih =>
    obtain ⟨i, w⟩ := p
    simp only [putD]
    by_cases q : i = k
    · subst q; simp only [if_true, lookD]; by_cases r : i = j
      · subst r; simp
      · simp [r, Ne.symm r]
    · simp only [q, if_false, lookD, ih]
      by_cases r : i = j
      · subst r; simp [q]
      · simp [r]
theorem lookD_none : lookD k es = none ↔ k ∉ keysD es := by
  induction es with
  | nil => simp [lookD, keysD]
  | cons p es ih =>
    skip
    simp only [lookD, keysD, List.map_cons, List.mem_cons, not_or] at ih ⊢
    by_cases q : p.1 = k
    · subst q; simp
    · simp only [q, if_false, ih]; simp [Ne.symm q]
theorem lookD_some_mem (h : lookD k es = some v) : (k, v) ∈ es := by
  induction es with
  | nil => exact nn h
  | cons p es ih =>
    skip
    simp only [lookD] at h
    by_cases q : p.1 = k
    · subst q; simp at h; subst h; simp
    · simp only [q, if_false] at h; exact List.mem_cons_of_mem _ (ih h)
theorem mem_lookD (hn : (keysD es).Nodup) (h : (k, v) ∈ es) : lookD k es = some v := by
  induction es with
  | nil => simp at h
  | cons p es ih =>
    skip
    simp only [keysD, List.map_cons, List.nodup_cons] at hn
    simp only [lookD]
    rcases List.mem_cons.mp h with e | e
    · cases e; simp
    · by_cases q : p.1 = k
      · subst q; exact absurd (List.mem_map.mpr ⟨_, e, rfl⟩) hn.1
      · simp only [q, if_false]; exact ih hn.2 e
theorem put_new (h : lookD k es = none) : putD k v es = es ++ [(k, v)] := by
  induction es with
  | nil => rfl
  | cons p es ih =>
    skip
    simp only [lookD] at h
    by_cases q : p.1 = k
    · subst q; simp at h
    · simp only [q, if_false] at h; simp [putD, q, ih h]
theorem keys_put : keysD (putD k v es) = if k ∈ keysD es then keysD es else keysD es ++ [k] := by
  induction es with
  | nil => rfl
  | cons p es ih =>
    skip
    simp only [putD, keysD] at ih ⊢
    by_cases q : p.1 = k
    · subst q; simp
    · simp only [q, if_false, List.map_cons, ih, List.mem_cons]
      by_cases r : k ∈ es.map (·.1)
      · simp [r]
      · simp only [r, if_false, or_false]; exact Eq.symm (if_neg (fun h => q h.symm))
theorem nodup_put (hn : (keysD es).Nodup) : (keysD (putD k v es)).Nodup := by
  simp only [keys_put]; split
  · exact hn
  · next h => exact List.nodup_append.mpr ⟨hn, by simp, by simp; intro a ha e; subst e; exact h ha⟩
theorem len_put_le : (putD k v es).length ≤ es.length + 1 := by
  induction es with
  | nil => exact Nat.le_refl _
  | cons p es ih =>
    skip
    simp only [putD]
    by_cases q : p.1 = k
    · simp [q]
    · simp [q]; exact ih
theorem mem_put {p : Int × α} (h : p ∈ putD k v es) : p = (k, v) ∨ p ∈ es := by
  induction es with
  | nil => replace h := List.mem_singleton.mp h; exact .inl h
  | cons q es ih =>
    skip
    simp only [putD] at h
    by_cases r : q.1 = k
    · subst r; simp at h; rcases h with rfl | h
      · exact .inl rfl
      · exact .inr (List.mem_cons_of_mem _ h)
    · simp only [r, if_false] at h
      rcases List.mem_cons.mp h with rfl | h
      · exact .inr (List.mem_cons_self ..)
      · rcases ih h with h | h
        · exact .inl h
        · exact .inr (List.mem_cons_of_mem _ h)
theorem mem_drop {p : Int × α} (h : p ∈ dropD k es) : p ∈ es := by
  induction es with
  | nil => simp [dropD] at h
  | cons q es ih =>
    skip
    simp only [dropD] at h
    by_cases r : q.1 = k
    · subst r; simp at h; exact List.mem_cons_of_mem _ h
    · simp only [r, if_false] at h
      rcases List.mem_cons.mp h with rfl | h
      · exact List.mem_cons_self ..
      · exact List.mem_cons_of_mem _ (ih h)
theorem lookD_drop_ne (h : j ≠ k) : lookD j (dropD k es) = lookD j es := by
  induction es with
  | nil => rfl
  | cons p es ih =>
    skip
    simp only [dropD]
    by_cases q : p.1 = k
    · subst q; simp [lookD, Ne.symm h]
    · simp only [q, if_false, lookD, ih]
theorem nodup_drop (hn : (keysD es).Nodup) : (keysD (dropD k es)).Nodup := by
  induction es with
  | nil => exact hn
  | cons p es ih =>
    skip
    simp only [keysD, List.map_cons, List.nodup_cons, dropD] at hn ih ⊢
    by_cases q : p.1 = k
    · simp only [q, if_true]; exact hn.2
    · simp only [q, if_false, List.map_cons, List.nodup_cons]
      refine ⟨fun h => hn.1 ?_, ih hn.2⟩
      refine Exists.elim (List.mem_map.mp h) ?_; rintro x hq0
      exact List.mem_map.mpr ⟨x, mem_drop hq0.1, hq0.2⟩
theorem lookD_drop (hn : (keysD es).Nodup) : lookD j (dropD k es) = if j = k then none else lookD j es := by
  by_cases q : j = k
  · subst q
    simp only [if_true]
    induction es with
    | nil => rfl
    | cons p es ih =>
      skip
      simp only [keysD, List.map_cons, List.nodup_cons, dropD] at hn ih ⊢
      by_cases q : p.1 = j
      · subst q; simp only [if_true]; exact lookD_none.mpr hn.1
      · simp only [q, if_false, lookD]; exact ih hn.2
  · simp only [q, if_false]; exact lookD_drop_ne q
theorem len_drop_le : (dropD k es).length ≤ es.length := by
  induction es with
  | nil => exact Nat.le_refl _
  | cons p es ih =>
    skip
    simp only [dropD]
    by_cases q : p.1 = k
    · simp [q]
    · simp [q]; exact ih
theorem len_drop (h : (lookD k es).isSome = true) : (dropD k es).length + 1 = es.length := by
  induction es with
  | nil => exact ff h
  | cons p es ih =>
    skip
    simp only [lookD, dropD] at h ⊢
    by_cases q : p.1 = k
    · simp [q]
    · simp only [q, if_false] at h ⊢; simp [ih h]
end
theorem len_le_of {α : Type} : ∀ {a b : List (Int × α)}, (keysD a).Nodup → (∀ j, (lookD j a).isSome = true → (lookD j b).isSome = true) → a.length ≤ b.length
  | [], b, _, _ => by simp
  | (k, v) :: a, b, hn, h => by
    simp only [keysD, List.map_cons, List.nodup_cons] at hn
    have hk : (lookD k b).isSome = true := h k (by simp [lookD])
    have := len_drop hk
    have ih := len_le_of (a := a) (b := dropD k b) hn.2 fun j hj => by
      have hne : j ≠ k := by
        rintro rfl
        have := lookD_none.mpr (show j ∉ keysD a from hn.1)
        rw [this] at hj; exact ff hj
      refine (Eq.symm (lookD_drop_ne hne)) ▸ ?_
      exact h j (by simp only [lookD]; rw [if_neg (Ne.symm hne)]; exact hj)
    simp; (first | lia | omega)
theorem eqD_refl {σ : View} {v : V} (h : Dat 20 v) : eqD σ v v = some true := by
  refine Exists.elim (h.toD (σ := σ)) ?_; rintro a hq0
  simp [eqD, hq0.1, hq0.2]
theorem eqAll_of {σ : View} {b : List (Int × V)} : ∀ {a : List (Int × V)}, (∀ p ∈ a, lookD p.1 b = some p.2 ∧ Dat 20 p.2) → eqAll σ b a = some true
  | [], _ => rfl
  | (k, v) :: a, h => by
    obtain ⟨h1, h2⟩ := h (k, v) (List.mem_cons_self ..)
    have ih := eqAll_of (σ := σ) (a := a) fun p hp => h p (List.mem_cons_of_mem _ hp)
    simp only [eqAll, h1, eqD_refl h2, ih]; rfl
/-- two dicts with the same entries are equal, whatever their orders -/
theorem eqDict_ext {σ : View} {a b : List (Int × V)} (ha : (keysD a).Nodup) (hb : (keysD b).Nodup) (h : ∀ j, lookD j a = lookD j b) (hd : ∀ p ∈ a, Dat 20 p.2) : eqDict σ a b = some true := by
  have h1 := len_le_of ha (b := b) fun j hj => ((h j) ▸ hj)
  have h2 := len_le_of hb (b := a) fun j hj => by rw [h j]; exact hj
  have e : a.length = b.length := by (first | lia | omega)
  simp only [eqDict, e, if_true]
  exact eqAll_of fun p hp => ⟨by rw [← h]; exact mem_lookD ha hp, hd p hp⟩
theorem eqV_dic {σ : View} {x y : V} {a b : List (Int × V)} (hx : dicOf σ x = some a) (hy : dicOf σ y = some b) : eqV σ x y = eqDict σ a b := by
  have hx0 : x.toD σ 20 = none := by
    cases x with
    | dct es => rfl
    | ref l =>
      refine Exists.elim (dicOf_ref hx) ?_; rintro ro e
      show ((match σ l with | some (.list _ xs) => some xs | _ => none).bind _) = none
      refine e ▸ ?_; rfl
    | _ => exact nn hx
  unfold eqV
  refine hx0 ▸ ?_; refine hx ▸ ?_; refine hy ▸ ?_; rfl
end

section

open PySem PyProof.Rows
set_option linter.unusedVariables false
set_option linter.unusedSimpArgs false
set_option maxRecDepth 100000
theorem w_dict0 {Φ : Spec} {G : Nat → V} {ls : Ls} {Q : Post} {σ : View} : ewp Φ G ls (.dict true [] .nil) Q σ ↔ ∀ a, σ a = none → Q (.ref a) (σ.upd a (.dict false [])) := ⟨fun h => h.2.2, fun h => ⟨List.nodup_nil, rfl, h⟩⟩
theorem cut_dict {Φ : Spec} {G : Nat → V} {ls : Ls} {Q : View → Ls → Prop} {R : Post} {σ : View} {i : Nat} {r : MSs} (k : ∀ a, σ a = none → swps Φ G r Q R (σ.upd a (.dict false [])) (ls.set i (.ref a))) : swps Φ G (.cons (.assign i (.dict true [] .nil)) r) Q R σ ls := by
  show ewp Φ G ls (.dict true [] .nil) (fun d σ' => swps Φ G r Q R σ' (ls.set i d)) σ
  exact w_dict0.mpr k
theorem cut_freezeD {Φ : Spec} {G : Nat → V} {ls : Ls} {Q : View → Ls → Prop} {R : Post} {σ : View} {i : Nat} {r : MSs} {a : Addr} {es : List (Int × V)} (h1 : ls i = some (.ref a)) (h2 : σ a = some (.dict false es)) (k : swps Φ G r Q R (σ.del a) (ls.set i (.dct es))) : swps Φ G (.cons (.freeze i) r) Q R σ ls := by
  show ∃ a, ls i = some (.ref a) ∧ ((∃ xs, σ a = some (.list false xs) ∧ swps Φ G r Q R (σ.del a) (ls.set i (.lst xs))) ∨ (∃ es, σ a = some (.dict false es) ∧ swps Φ G r Q R (σ.del a) (ls.set i (.dct es))))
  exact ⟨a, h1, .inr ⟨es, h2, k⟩⟩
theorem cut_freezeL {Φ : Spec} {G : Nat → V} {ls : Ls} {Q : View → Ls → Prop} {R : Post} {σ : View} {i : Nat} {r : MSs} {a : Addr} {xs : List V} (h1 : ls i = some (.ref a)) (h2 : σ a = some (.list false xs)) (k : swps Φ G r Q R (σ.del a) (ls.set i (.lst xs))) : swps Φ G (.cons (.freeze i) r) Q R σ ls :=
  ⟨a, h1, .inl ⟨xs, h2, k⟩⟩
noncomputable def notNone : V → Bool
  | .none => false
  | _ => true
theorem filter_nodup {es : List (Int × V)} {p : Int × V → Bool} (hn : (keysD es).Nodup) : (keysD (es.filter p)).Nodup := by
  unfold keysD at *
  exact hn.sublist ((List.filter_sublist (p := p) (l := es)).map _)
theorem look_append {j : Int} {a b : List (Int × V)} : lookD j (a ++ b) = (lookD j a).or (lookD j b) := by
  induction a with
  | nil => rfl
  | cons p a ih =>
    skip
    dsimp only [List.cons_append, lookD]
    split
    · rfl
    · exact ih
end

section
open PySem PySem.W PySem.Calls PyProof.Rows
set_option maxRecDepth 100000
noncomputable def gcs_uf020012_08 : List Str := []
/-- 0: half(width) -/
noncomputable def m_half : MSs := (ss [
    .ret (.op .div (es [(.op .add (es [(.var 0), (.lit (.int 1))])), (.lit (.int 2))]))])
noncomputable def v_half : List Str := ["width"]
/-- 1: place(pairs, key) -/
noncomputable def m_place : MSs := (ss [
    .assign 2 (.lit (.int 0)),
    .for1 (.one 3) (.range (es [(.op .len (es [(.var 0)]))])) (ss [
      .ite (.op .le (es [(.op .item (es [(.op .item (es [(.var 0), (.var 3)])), (.lit (.int 0))])), (.var 1)])) (ss [
        .assign 2 (.var 3)]) (ss [])]),
    .ret (.var 2)])
noncomputable def v_place : List Str := ["pairs", "key", "found", "at"]
/-- 2: parts(pairs, width) -/
noncomputable def m_parts : MSs := (ss [
    .ite (.op .le (es [(.op .len (es [(.var 0)])), (.var 1)])) (ss [
      .ret (.op .mkList (es [(.op .tuple (es [(.var 0)]))]))]) (ss []),
    .assign 2 (.op .div (es [(.op .len (es [(.var 0)])), (.lit (.int 2))])),
    .ret (.op .mkList (es [(.op .tuple (es [(.op (.slice false true) (es [(.var 0), (.var 2)]))])), (.op .tuple (es [(.op (.slice true false) (es [(.var 0), (.var 2)]))]))]))])
noncomputable def v_parts : List Str := ["pairs", "width", "cut"]
/-- 3: below(blocks, row) -/
noncomputable def m_below : MSs := (ss [
    .assign 2 (.op .mkListM (es [])),
    .for1 (.one 3) (.seq (.var 1)) (ss [
      .expr (.meth .extend (.var 2) (es [(.comp false (.op .item (es [(.var 4), (.lit (.int 1))])) (.one 4) (.seq (.op .item (es [(.op .item (es [(.var 0), (.var 3)])), (.lit (.int 1))]))) (es []))]))]),
    .freeze 2,
    .ret (.var 2)])
noncomputable def v_below : List Str := ["blocks", "row", "found", "number", "pair"]
/-- 4: pairs_of(blocks, row) -/
noncomputable def m_pairs_of : MSs := (ss [
    .assign 2 (.op .mkListM (es [])),
    .for1 (.one 3) (.seq (.var 1)) (ss [
      .expr (.meth .extend (.var 2) (es [(.op .list (es [(.op .item (es [(.op .item (es [(.var 0), (.var 3)])), (.lit (.int 1))]))]))]))]),
    .freeze 2,
    .ret (.var 2)])
noncomputable def v_pairs_of : List Str := ["blocks", "row", "found", "number"]
/-- 5: way_to(blocks, key) -/
noncomputable def m_way_to : MSs := (ss [
    .assign 2 (.op .mkListM (es [(.lit (.int 0))])),
    .assign 3 (.op .mkListM (es [])),
    .loop (.op .eq (es [(.op .item (es [(.op .item (es [(.var 0), (.op .item (es [(.var 2), (.op .neg (es [(.lit (.int 1))]))]))])), (.lit (.int 0))])), (.lit (.str (Str.ofString "branch")))])) (ss [
      .assign 4 (.op .item (es [(.op .item (es [(.var 0), (.op .item (es [(.var 2), (.op .neg (es [(.lit (.int 1))]))]))])), (.lit (.int 1))])),
      .assign 5 (.call 1 (es [(.var 4), (.var 1)])),
      .expr (.meth .append (.var 3) (es [(.var 5)])),
      .expr (.meth .append (.var 2) (es [(.op .item (es [(.op .item (es [(.var 4), (.var 5)])), (.lit (.int 1))]))]))]),
    .freeze 2,
    .freeze 3,
    .ret (.op .mkTup (es [(.var 2), (.var 3)]))])
noncomputable def v_way_to : List Str := ["blocks", "key", "numbers", "places", "row", "at"]
/-- 6: value_in(blocks, key) -/
noncomputable def m_value_in : MSs := (ss [
    .assign 2 (.op .item (es [(.op .item (es [(.call 5 (es [(.var 0), (.var 1)])), (.lit (.int 0))])), (.op .neg (es [(.lit (.int 1))]))])),
    .for1 (.one 3) (.seq (.op .item (es [(.op .item (es [(.var 0), (.var 2)])), (.lit (.int 1))]))) (ss [
      .ite (.op .eq (es [(.op .item (es [(.var 3), (.lit (.int 0))])), (.var 1)])) (ss [
        .ret (.op .item (es [(.var 3), (.lit (.int 1))]))]) (ss [])]),
    .ret (.lit .none)])
noncomputable def v_value_in : List Str := ["blocks", "key", "leaf", "pair"]
/-- 7: listed(blocks) -/
noncomputable def m_listed : MSs := (ss [
    .assign 1 (.op .mkList (es [(.lit (.int 0))])),
    .loop (.op .eq (es [(.op .item (es [(.op .item (es [(.var 0), (.op .item (es [(.var 1), (.lit (.int 0))]))])), (.lit (.int 0))])), (.lit (.str (Str.ofString "branch")))])) (ss [
      .assign 1 (.call 3 (es [(.var 0), (.var 1)]))]),
    .ret (.call 4 (es [(.var 0), (.var 1)]))])
noncomputable def v_listed : List Str := ["blocks", "row"]
/-- 8: free_number(blocks, changed) -/
noncomputable def m_free_number : MSs := (ss [
    .assign 2 (.lit (.int 1)),
    .loop (.or (es [(.op .isIn (es [(.var 2), (.var 0)])), (.op .isIn (es [(.var 2), (.var 1)]))])) (ss [
      .assign 2 (.op .add (es [(.var 2), (.lit (.int 1))]))]),
    .ret (.var 2)])
noncomputable def v_free_number : List Str := ["blocks", "changed", "number"]
/-- 9: unlike(blocks, changed) -/
noncomputable def m_unlike : MSs := (ss [
    .assign 2 (.dict true [] (es [])),
    .for1 (.one 3) (.seq (.var 1)) (ss [
      .ite (.op .ne (es [(.meth .get (.var 0) (es [(.var 3)])), (.op .item (es [(.var 1), (.var 3)]))])) (ss [
        .setSub (.var 2) (.var 3) (.op .item (es [(.var 1), (.var 3)]))]) (ss [])]),
    .freeze 2,
    .ret (.var 2)])
noncomputable def v_unlike : List Str := ["blocks", "changed", "found", "number"]
/-- 10: entry_of(number, row) -/
noncomputable def m_entry_of : MSs := (ss [
    .ret (.op .mkTup (es [(.op .item (es [(.op .item (es [(.var 1), (.lit (.int 0))])), (.lit (.int 0))])), (.var 0)]))])
noncomputable def v_entry_of : List Str := ["number", "row"]
/-- 11: put_in(blocks, width, key, value) -/
noncomputable def m_put_in : MSs := (ss [
    .assign 4 (.call 5 (es [(.var 0), (.var 2)])),
    .assign 5 (.op .item (es [(.var 4), (.lit (.int 0))])),
    .assign 6 (.op .item (es [(.op .item (es [(.var 0), (.op .item (es [(.var 5), (.op .neg (es [(.lit (.int 1))]))]))])), (.lit (.int 1))])),
    .assign 7 (.op .add (es [(.op .add (es [(.comp false (.var 8) (.one 8) (.seq (.var 6)) (es [(.op .lt (es [(.op .item (es [(.var 8), (.lit (.int 0))])), (.var 2)]))])), (.op .mkList (es [(.op .mkTup (es [(.var 2), (.var 3)]))]))])), (.comp false (.var 8) (.one 8) (.seq (.var 6)) (es [(.op .gt (es [(.op .item (es [(.var 8), (.lit (.int 0))])), (.var 2)]))]))])),
    .assign 9 (.dict true [] (es [])),
    .assign 10 (.lit (.str (Str.ofString "leaf"))),
    .for1 (.one 11) (.range (es [(.op .sub (es [(.op .len (es [(.var 5)])), (.lit (.int 1))])), (.lit (.int 0)), (.op .neg (es [(.lit (.int 1))]))])) (ss [
      .assign 12 (.call 2 (es [(.var 7), (.var 1)])),
      .setSub (.var 9) (.op .item (es [(.var 5), (.var 11)])) (.op .mkTup (es [(.var 10), (.op .item (es [(.var 12), (.lit (.int 0))]))])),
      .assign 13 (.op .mkListM (es [(.call 10 (es [(.op .item (es [(.var 5), (.var 11)])), (.op .item (es [(.var 12), (.lit (.int 0))]))]))])),
      .ite (.op .eq (es [(.op .len (es [(.var 12)])), (.lit (.int 2))])) (ss [
        .assign 14 (.call 8 (es [(.var 0), (.var 9)])),
        .setSub (.var 9) (.var 14) (.op .mkTup (es [(.var 10), (.op .item (es [(.var 12), (.lit (.int 1))]))])),
        .expr (.meth .append (.var 13) (es [(.call 10 (es [(.var 14), (.op .item (es [(.var 12), (.lit (.int 1))]))]))]))]) (ss []),
      .assign 15 (.op .list (es [(.op .item (es [(.op .item (es [(.var 0), (.op .item (es [(.var 5), (.op .sub (es [(.var 11), (.lit (.int 1))]))]))])), (.lit (.int 1))]))])),
      .assign 16 (.op .item (es [(.op .item (es [(.var 4), (.lit (.int 1))])), (.op .sub (es [(.var 11), (.lit (.int 1))]))])),
      .freeze 13,
      .assign 7 (.op .add (es [(.op .add (es [(.op (.slice false true) (es [(.var 15), (.var 16)])), (.var 13)])), (.op (.slice true false) (es [(.var 15), (.op .add (es [(.var 16), (.lit (.int 1))]))]))])),
      .assign 10 (.lit (.str (Str.ofString "branch")))]),
    .assign 12 (.call 2 (es [(.var 7), (.var 1)])),
    .setSub (.var 9) (.lit (.int 0)) (.op .mkTup (es [(.var 10), (.op .item (es [(.var 12), (.lit (.int 0))]))])),
    .ite (.op .eq (es [(.op .len (es [(.var 12)])), (.lit (.int 2))])) (ss [
      .assign 13 (.op .mkListM (es [])),
      .for1 (.one 17) (.seq (.var 12)) (ss [
        .assign 14 (.call 8 (es [(.var 0), (.var 9)])),
        .setSub (.var 9) (.var 14) (.op .mkTup (es [(.var 10), (.var 17)])),
        .expr (.meth .append (.var 13) (es [(.call 10 (es [(.var 14), (.var 17)]))]))]),
      .freeze 13,
      .setSub (.var 9) (.lit (.int 0)) (.op .mkTup (es [(.lit (.str (Str.ofString "branch"))), (.op .tuple (es [(.var 13)]))]))]) (ss []),
    .freeze 9,
    .ret (.call 9 (es [(.var 0), (.var 9)]))])
noncomputable def v_put_in : List Str := ["blocks", "width", "key", "value", "way", "numbers", "old", "row", "pair", "changed", "word", "depth", "made", "entries", "fresh", "above", "at", "part"]
/-- 12: joined(blocks, changed, width, word, row, above, at) -/
noncomputable def m_joined : MSs := (ss [
    .assign 7 (.op .max2 (es [(.op .sub (es [(.var 6), (.lit (.int 1))])), (.lit (.int 0))])),
    .assign 8 (.op .item (es [(.op .item (es [(.var 5), (.var 7)])), (.lit (.int 1))])),
    .assign 9 (.op .item (es [(.op .item (es [(.var 5), (.op .add (es [(.var 7), (.lit (.int 1))]))])), (.lit (.int 1))])),
    .ite (.op .gt (es [(.var 6), (.lit (.int 0))])) (ss [
      .assign 10 (.op .add (es [(.op .list (es [(.op .item (es [(.op .item (es [(.var 0), (.var 8)])), (.lit (.int 1))]))])), (.var 4)]))]) (ss [
      .assign 10 (.op .add (es [(.var 4), (.op .list (es [(.op .item (es [(.op .item (es [(.var 0), (.var 9)])), (.lit (.int 1))]))]))]))]),
    .assign 11 (.call 2 (es [(.var 10), (.var 2)])),
    .setSub (.var 1) (.var 8) (.op .mkTup (es [(.var 3), (.op .item (es [(.var 11), (.lit (.int 0))]))])),
    .setSub (.var 1) (.var 9) (.lit .none),
    .assign 12 (.op .mkListM (es [(.call 10 (es [(.var 8), (.op .item (es [(.var 11), (.lit (.int 0))]))]))])),
    .ite (.op .eq (es [(.op .len (es [(.var 11)])), (.lit (.int 2))])) (ss [
      .setSub (.var 1) (.var 9) (.op .mkTup (es [(.var 3), (.op .item (es [(.var 11), (.lit (.int 1))]))])),
      .expr (.meth .append (.var 12) (es [(.call 10 (es [(.var 9), (.op .item (es [(.var 11), (.lit (.int 1))]))]))]))]) (ss []),
    .freeze 12,
    .ret (.op .add (es [(.op .add (es [(.op (.slice false true) (es [(.var 5), (.var 7)])), (.var 12)])), (.op (.slice true false) (es [(.var 5), (.op .add (es [(.var 7), (.lit (.int 2))]))]))]))])
noncomputable def v_joined : List Str := ["blocks", "changed", "width", "word", "row", "above", "at", "low", "left", "right", "both", "made", "entries"]
/-- 13: drop_from(blocks, width, key) -/
noncomputable def m_drop_from : MSs := (ss [
    .assign 3 (.call 5 (es [(.var 0), (.var 2)])),
    .assign 4 (.op .item (es [(.var 3), (.lit (.int 0))])),
    .assign 5 (.comp false (.var 6) (.one 6) (.seq (.op .item (es [(.op .item (es [(.var 0), (.op .item (es [(.var 4), (.op .neg (es [(.lit (.int 1))]))]))])), (.lit (.int 1))]))) (es [(.op .ne (es [(.op .item (es [(.var 6), (.lit (.int 0))])), (.var 2)]))])),
    .assign 7 (.dict true [] (es [])),
    .assign 8 (.lit (.str (Str.ofString "leaf"))),
    .for1 (.one 9) (.range (es [(.op .sub (es [(.op .len (es [(.var 4)])), (.lit (.int 1))])), (.lit (.int 0)), (.op .neg (es [(.lit (.int 1))]))])) (ss [
      .assign 10 (.op .list (es [(.op .item (es [(.op .item (es [(.var 0), (.op .item (es [(.var 4), (.op .sub (es [(.var 9), (.lit (.int 1))]))]))])), (.lit (.int 1))]))])),
      .assign 11 (.op .item (es [(.op .item (es [(.var 3), (.lit (.int 1))])), (.op .sub (es [(.var 9), (.lit (.int 1))]))])),
      .ite (.op .ge (es [(.op .len (es [(.var 5)])), (.call 0 (es [(.var 1)]))])) (ss [
        .setSub (.var 7) (.op .item (es [(.var 4), (.var 9)])) (.op .mkTup (es [(.var 8), (.op .tuple (es [(.var 5)]))])),
        .assign 5 (.op .add (es [(.op .add (es [(.op (.slice false true) (es [(.var 10), (.var 11)])), (.op .mkList (es [(.call 10 (es [(.op .item (es [(.var 4), (.var 9)])), (.var 5)]))]))])), (.op (.slice true false) (es [(.var 10), (.op .add (es [(.var 11), (.lit (.int 1))]))]))]))]) (ss [
        .assign 5 (.call 12 (es [(.var 0), (.var 7), (.var 1), (.var 8), (.var 5), (.var 10), (.var 11)]))]),
      .assign 8 (.lit (.str (Str.ofString "branch")))]),
    .setSub (.var 7) (.lit (.int 0)) (.op .mkTup (es [(.var 8), (.op .tuple (es [(.var 5)]))])),
    .ite (.and (es [(.op .eq (es [(.var 8), (.lit (.str (Str.ofString "branch")))])), (.op .eq (es [(.op .len (es [(.var 5)])), (.lit (.int 1))]))])) (ss [
      .assign 12 (.op .item (es [(.op .item (es [(.var 5), (.lit (.int 0))])), (.lit (.int 1))])),
      .setSub (.var 7) (.lit (.int 0)) (.op .item (es [(.var 7), (.var 12)])),
      .setSub (.var 7) (.var 12) (.lit .none)]) (ss []),
    .freeze 7,
    .ret (.call 9 (es [(.var 0), (.var 7)]))])
noncomputable def v_drop_from : List Str := ["blocks", "width", "key", "way", "numbers", "row", "pair", "changed", "word", "depth", "above", "at", "only"]
/-- 14: _law_cell_at(_law_script, _law_k) -/
noncomputable def m_law_cell_at : MSs := (ss [
    .ite (.op .lt (es [(.var 1), (.op .len (es [(.var 0)]))])) (ss [
      .ret (.op .item (es [(.var 0), (.var 1)]))]) (ss []),
    .ret (.lit (.int 0))])
noncomputable def v_law_cell_at : List Str := ["_law_script", "_law_k"]
/-- 15: _law_whole(_law_found) -/
noncomputable def m_law_whole : MSs := (ss [
    .ret (.and (es [(.op (.isinst "int") (es [(.var 0)])), (.not (.op (.isinst "bool") (es [(.var 0)])))]))])
noncomputable def v_law_whole : List Str := ["_law_found"]
/-- 16: _law_width_by(_law_cell) -/
noncomputable def m_law_width_by : MSs := (ss [
    .ite (.op .eq (es [(.op .mod (es [(.var 0), (.lit (.int 8))])), (.lit (.int 7))])) (ss [
      .ret (.op .add (es [(.lit (.int 3)), (.op .mod (es [(.op .div (es [(.var 0), (.lit (.int 8))])), (.lit (.int 62))]))]))]) (ss []),
    .ret (.op .add (es [(.lit (.int 3)), (.op .mod (es [(.op .div (es [(.var 0), (.lit (.int 8))])), (.lit (.int 4))]))]))])
noncomputable def v_law_width_by : List Str := ["_law_cell"]
/-- 17: _law_value_by(_law_cell) -/
noncomputable def m_law_value_by : MSs := (ss [
    .assign 1 (.lit (.str (Str.ofString " !\"#$&'()*+,-./0123456789:;<=>?@ABCDEFGHIJKLMNOPQRSTUVWXYZ[\\]^_`"))),
    .assign 1 (.op .add (es [(.var 1), (.lit (.str (Str.ofString "abcdefghijklmnopqrstuvwxyz{|}~")))])),
    .assign 0 (.op .mod (es [(.op .mul (es [(.var 0), (.lit (.int 69621))])), (.lit (.int 2097143))])),
    .assign 2 (.op .mod (es [(.var 0), (.lit (.int 5))])),
    .ite (.op .eq (es [(.op .mod (es [(.op .div (es [(.var 0), (.lit (.int 5))])), (.lit (.int 3))])), (.lit (.int 1))])) (ss [
      .assign 2 (.op .mod (es [(.op .div (es [(.var 0), (.lit (.int 15))])), (.lit (.int 61))]))]) (ss []),
    .assign 3 (.op .item (es [(.op .mkList (es [(.lit (.int 0)), (.lit (.int 1)), (.lit (.int 7))])), (.op .mod (es [(.op .div (es [(.var 0), (.lit (.int 915))])), (.lit (.int 3))]))])),
    .ret (.meth .join (.lit (.str (Str.ofString ""))) (es [(.comp false (.op .item (es [(.var 1), (.op .mod (es [(.op .add (es [(.op .div (es [(.var 0), (.lit (.int 2745))])), (.op .mul (es [(.var 3), (.var 4)]))])), (.lit (.int 94))]))])) (.one 4) (.range (es [(.var 2)])) (es []))]))])
noncomputable def v_law_value_by : List Str := ["_law_cell", "_law_some", "_law_size", "_law_step", "_law_k"]
/-- 18: _law_held(_law_row, _law_key, _law_value) -/
noncomputable def m_law_held : MSs := (ss [
    .assign 3 (.comp true (.var 4) (.one 4) (.seq (.var 0)) (es [(.op .lt (es [(.op .item (es [(.var 4), (.lit (.int 0))])), (.var 1)]))])),
    .ite (.op .isNot (es [(.var 2), (.lit .none)])) (ss [
      .expr (.meth .append (.var 3) (es [(.op .mkTup (es [(.var 1), (.var 2)]))]))]) (ss []),
    .freeze 3,
    .ret (.op .add (es [(.var 3), (.comp false (.var 4) (.one 4) (.seq (.var 0)) (es [(.op .gt (es [(.op .item (es [(.var 4), (.lit (.int 0))])), (.var 1)]))]))]))])
noncomputable def v_law_held : List Str := ["_law_row", "_law_key", "_law_value", "_law_found", "_law_pair"]
/-- 19: _law_good(_law_block, _law_least, _law_most) -/
noncomputable def m_law_good : MSs := (ss [
    .ite (.or (es [(.not (.op (.isinst "tuple") (es [(.var 0)]))), (.op .ne (es [(.op .len (es [(.var 0)])), (.lit (.int 2))])), (.not (.op (.isinst "tuple") (es [(.op .item (es [(.var 0), (.lit (.int 1))]))])))])) (ss [
      .ret (.lit (.bool false))]) (ss []),
    .ite (.or (es [(.not (.op (.isinst "str") (es [(.op .item (es [(.var 0), (.lit (.int 0))]))]))), (.op .notIn (es [(.op .item (es [(.var 0), (.lit (.int 0))])), (.op .mkTup (es [(.lit (.str (Str.ofString "leaf"))), (.lit (.str (Str.ofString "branch")))]))])), (.not (.cmp2 .le .le (.var 1) (.op .len (es [(.op .item (es [(.var 0), (.lit (.int 1))]))])) (.var 2)))])) (ss [
      .ret (.lit (.bool false))]) (ss []),
    .for1 (.two 3 4) (.enum (es [(.op .item (es [(.var 0), (.lit (.int 1))]))])) (ss [
      .ite (.or (es [(.not (.op (.isinst "tuple") (es [(.var 4)]))), (.op .ne (es [(.op .len (es [(.var 4)])), (.lit (.int 2))])), (.not (.call 15 (es [(.op .item (es [(.var 4), (.lit (.int 0))]))])))])) (ss [
        .ret (.lit (.bool false))]) (ss []),
      .ite (.and (es [(.op .gt (es [(.var 3), (.lit (.int 0))])), (.op .le (es [(.op .item (es [(.var 4), (.lit (.int 0))])), (.op .item (es [(.op .item (es [(.op .item (es [(.var 0), (.lit (.int 1))])), (.op .sub (es [(.var 3), (.lit (.int 1))]))])), (.lit (.int 0))]))]))])) (ss [
        .ret (.lit (.bool false))]) (ss []),
      .ite (.and (es [(.op .eq (es [(.op .item (es [(.var 0), (.lit (.int 0))])), (.lit (.str (Str.ofString "leaf")))])), (.not (.op (.isinst "str") (es [(.op .item (es [(.var 4), (.lit (.int 1))]))])))])) (ss [
        .ret (.lit (.bool false))]) (ss []),
      .ite (.and (es [(.op .eq (es [(.op .item (es [(.var 0), (.lit (.int 0))])), (.lit (.str (Str.ofString "branch")))])), (.not (.call 15 (es [(.op .item (es [(.var 4), (.lit (.int 1))]))])))])) (ss [
        .ret (.lit (.bool false))]) (ss [])]),
    .ret (.lit (.bool true))])
noncomputable def v_law_good : List Str := ["_law_block", "_law_least", "_law_most", "_law_at", "_law_pair"]
/-- 20: _law_row_of(_law_blocks, _law_width) -/
noncomputable def m_law_row_of : MSs := (ss [
    .assign 2 (.op .mkList (es [])),
    .assign 3 (.dict true [] (es [])),
    .assign 4 (.lit .none),
    .assign 5 (.op .mkListM (es [(.op .mkTup (es [(.lit (.int 0)), (.lit (.int 0)), (.lit .none)]))])),
    .loop (.op .gt (es [(.op .len (es [(.var 5)])), (.lit (.int 0))])) (ss [
      .assign 6 (.meth .popL (.var 5) (es [])),
      .assign 7 (.op .div (es [(.op .add (es [(.var 1), (.lit (.int 1))])), (.lit (.int 2))])),
      .ite (.op .eq (es [(.op .item (es [(.var 6), (.lit (.int 0))])), (.lit (.int 0))])) (ss [
        .assign 7 (.lit (.int 0))]) (ss []),
      .assign 8 (.meth .get (.var 0) (es [(.op .item (es [(.var 6), (.lit (.int 0))]))])),
      .ite (.or (es [(.op .isIn (es [(.op .item (es [(.var 6), (.lit (.int 0))])), (.var 3)])), (.not (.call 19 (es [(.var 8), (.var 7), (.var 1)])))])) (ss [
        .freeze 5,
        .freeze 3,
        .ret (.lit .none)]) (ss []),
      .setSub (.var 3) (.op .item (es [(.var 6), (.lit (.int 0))])) (.lit (.bool true)),
      .ite (.and (es [(.op .isNot (es [(.op .item (es [(.var 6), (.lit (.int 2))])), (.lit .none)])), (.op .ne (es [(.op .item (es [(.op .item (es [(.op .item (es [(.var 8), (.lit (.int 1))])), (.lit (.int 0))])), (.lit (.int 0))])), (.op .item (es [(.var 6), (.lit (.int 2))]))]))])) (ss [
        .freeze 5,
        .freeze 3,
        .ret (.lit .none)]) (ss []),
      .ite (.op .eq (es [(.op .item (es [(.var 8), (.lit (.int 0))])), (.lit (.str (Str.ofString "leaf")))])) (ss [
        .ite (.and (es [(.op .isNot (es [(.var 4), (.lit .none)])), (.op .ne (es [(.var 4), (.op .item (es [(.var 6), (.lit (.int 1))]))]))])) (ss [
          .freeze 5,
          .freeze 3,
          .ret (.lit .none)]) (ss []),
        .assign 4 (.op .item (es [(.var 6), (.lit (.int 1))])),
        .assign 2 (.op .add (es [(.var 2), (.op .list (es [(.op .item (es [(.var 8), (.lit (.int 1))]))]))]))]) (ss [
        .ite (.op .lt (es [(.op .len (es [(.op .item (es [(.var 8), (.lit (.int 1))]))])), (.lit (.int 2))])) (ss [
          .freeze 5,
          .freeze 3,
          .ret (.lit .none)]) (ss [
          .for1 (.one 9) (.rev (es [(.op .item (es [(.var 8), (.lit (.int 1))]))])) (ss [
            .expr (.meth .append (.var 5) (es [(.op .mkTup (es [(.op .item (es [(.var 9), (.lit (.int 1))])), (.op .add (es [(.op .item (es [(.var 6), (.lit (.int 1))])), (.lit (.int 1))])), (.op .item (es [(.var 9), (.lit (.int 0))]))]))]))])])])]),
    .freeze 5,
    .freeze 3,
    .for1 (.one 10) (.range (es [(.lit (.int 1)), (.op .len (es [(.var 2)]))])) (ss [
      .ite (.op .le (es [(.op .item (es [(.op .item (es [(.var 2), (.var 10)])), (.lit (.int 0))])), (.op .item (es [(.op .item (es [(.var 2), (.op .sub (es [(.var 10), (.lit (.int 1))]))])), (.lit (.int 0))]))])) (ss [
        .ret (.lit .none)]) (ss [])]),
    .ite (.op .ne (es [(.op .len (es [(.var 3)])), (.op .len (es [(.var 0)]))])) (ss [
      .ret (.lit .none)]) (ss []),
    .ret (.var 2)])
noncomputable def v_law_row_of : List Str := ["_law_blocks", "_law_width", "_law_row", "_law_seen", "_law_deep", "_law_todo", "_law_told", "_law_least", "_law_block", "_law_pair", "_law_at"]
/-- 21: _law_level(_law_pairs, _law_width, _law_cell) -/
noncomputable def m_law_level : MSs := (ss [
    .assign 3 (.op .neg (es [(.op .div (es [(.op .neg (es [(.op .len (es [(.var 0)]))])), (.var 1)]))])),
    .assign 4 (.op .max2 (es [(.lit (.int 1)), (.op .div (es [(.op .len (es [(.var 0)])), (.op .div (es [(.op .add (es [(.var 1), (.lit (.int 1))])), (.lit (.int 2))]))]))])),
    .assign 5 (.op .add (es [(.var 3), (.op .mod (es [(.var 2), (.op .add (es [(.op .sub (es [(.var 4), (.var 3)])), (.lit (.int 1))]))]))])),
    .assign 6 (.op .mkListM (es [])),
    .assign 7 (.lit (.int 0)),
    .for1 (.one 8) (.range (es [(.var 5)])) (ss [
      .assign 9 (.op .add (es [(.op .div (es [(.op .len (es [(.var 0)])), (.var 5)])), (.op .int (es [(.op .lt (es [(.var 8), (.op .mod (es [(.op .len (es [(.var 0)])), (.var 5)]))]))]))])),
      .expr (.meth .append (.var 6) (es [(.op .tuple (es [(.op (.slice true true) (es [(.var 0), (.var 7), (.op .add (es [(.var 7), (.var 9)]))]))]))])),
      .assign 7 (.op .add (es [(.var 7), (.var 9)]))]),
    .freeze 6,
    .ret (.var 6)])
noncomputable def v_law_level : List Str := ["_law_pairs", "_law_width", "_law_cell", "_law_least", "_law_most", "_law_many", "_law_rows", "_law_at", "_law_k", "_law_size"]
/-- 22: _law_tree_by(_law_pairs, _law_width, _law_cell) -/
noncomputable def m_law_tree_by : MSs := (ss [
    .assign 3 (.dict true [] (es [])),
    .assign 4 (.lit (.str (Str.ofString "leaf"))),
    .assign 5 (.op .add (es [(.lit (.int 1)), (.op .mod (es [(.var 2), (.lit (.int 3))]))])),
    .loop (.op .gt (es [(.op .len (es [(.var 0)])), (.var 1)])) (ss [
      .assign 6 (.op .mkListM (es [])),
      .for1 (.one 7) (.seq (.call 21 (es [(.var 0), (.var 1), (.op .div (es [(.var 2), (.lit (.int 3))]))]))) (ss [
        .setSub (.var 3) (.var 5) (.op .mkTup (es [(.var 4), (.var 7)])),
        .expr (.meth .append (.var 6) (es [(.op .mkTup (es [(.op .item (es [(.op .item (es [(.var 7), (.lit (.int 0))])), (.lit (.int 0))])), (.var 5)]))])),
        .assign 5 (.op .add (es [(.op .add (es [(.var 5), (.lit (.int 1))])), (.op .mod (es [(.op .div (es [(.var 2), (.lit (.int 5))])), (.lit (.int 2))]))]))]),
      .freeze 6,
      .assign 0 (.var 6),
      .assign 4 (.lit (.str (Str.ofString "branch")))]),
    .setSub (.var 3) (.lit (.int 0)) (.op .mkTup (es [(.var 4), (.op .tuple (es [(.var 0)]))])),
    .freeze 3,
    .ret (.var 3)])
noncomputable def v_law_tree_by : List Str := ["_law_pairs", "_law_width", "_law_cell", "_law_blocks", "_law_kind", "_law_number", "_law_above", "_law_row"]
/-- 23: _law_numbered(_law_blocks, _law_found) -/
noncomputable def m_law_numbered : MSs := (ss [
    .ite (.not (.op (.isinst "dict") (es [(.var 1)]))) (ss [
      .ret (.lit (.bool false))]) (ss []),
    .assign 2 (.comp false (.var 3) (.one 3) (.seq (.op .list (es [(.var 1)]))) (es [(.op .is (es [(.op .item (es [(.var 1), (.var 3)])), (.lit .none)]))])),
    .assign 4 (.op .sorted (es [(.comp false (.var 3) (.one 3) (.seq (.op .list (es [(.var 1)]))) (es [(.op .notIn (es [(.var 3), (.var 0)]))]))])),
    .for1 (.one 3) (.seq (.op .list (es [(.var 1)]))) (ss [
      .ite (.or (es [(.not (.call 15 (es [(.var 3)]))), (.op .eq (es [(.op .item (es [(.var 1), (.var 3)])), (.meth .get (.var 0) (es [(.var 3)]))]))])) (ss [
        .ret (.lit (.bool false))]) (ss [])]),
    .ite (.and (es [(.op .gt (es [(.op .len (es [(.var 2)])), (.lit (.int 0))])), (.op .gt (es [(.op .len (es [(.var 4)])), (.lit (.int 0))]))])) (ss [
      .ret (.lit (.bool false))]) (ss []),
    .assign 5 (.comp false (.var 3) (.one 3) (.range (es [(.lit (.int 1)), (.op .add (es [(.op .add (es [(.op .len (es [(.var 0)])), (.op .len (es [(.var 4)]))])), (.lit (.int 1))]))])) (es [(.op .notIn (es [(.var 3), (.var 0)]))])),
    .ret (.op .eq (es [(.var 4), (.op (.slice false true) (es [(.var 5), (.op .len (es [(.var 4)]))]))]))])
noncomputable def v_law_numbered : List Str := ["_law_blocks", "_law_found", "_law_gone", "_law_number", "_law_news", "_law_free"]
/-- 24: _law_behind(_law_blocks, _law_found) -/
noncomputable def m_law_behind : MSs := (ss [
    .assign 2 (.op .dict (es [(.var 0)])),
    .for1 (.one 3) (.seq (.op .list (es [(.var 1)]))) (ss [
      .expr (.meth .popD2 (.var 2) (es [(.var 3), (.lit .none)])),
      .ite (.op .isNot (es [(.op .item (es [(.var 1), (.var 3)])), (.lit .none)])) (ss [
        .setSub (.var 2) (.var 3) (.op .item (es [(.var 1), (.var 3)]))]) (ss [])]),
    .freeze 2,
    .ret (.var 2)])
noncomputable def v_law_behind : List Str := ["_law_blocks", "_law_found", "_law_others", "_law_number"]
/-- 25: _law_listed(_law_blocks, _law_row, _law_key) -/
noncomputable def m_law_listed : MSs := (ss [
    .assign 3 (.lit .none),
    .for1 (.one 4) (.seq (.var 1)) (ss [
      .ite (.op .eq (es [(.op .item (es [(.var 4), (.lit (.int 0))])), (.var 2)])) (ss [
        .assign 3 (.op .item (es [(.var 4), (.lit (.int 1))]))]) (ss [])]),
    .assign 5 (.call 7 (es [(.var 0)])),
    .assign 6 (.call 6 (es [(.var 0), (.var 2)])),
    .ite (.or (es [(.and (es [(.op .is (es [(.var 3), (.lit .none)])), (.op .isNot (es [(.var 6), (.lit .none)]))])), (.and (es [(.op .isNot (es [(.var 3), (.lit .none)])), (.not (.op (.isinst "str") (es [(.var 6)])))]))])) (ss [
      .ret (.lit (.bool false))]) (ss []),
    .ret (.and (es [(.op .eq (es [(.var 6), (.var 3)])), (.op (.isinst "list") (es [(.var 5)])), (.op .eq (es [(.var 5), (.var 1)]))]))])
noncomputable def v_law_listed : List Str := ["_law_blocks", "_law_row", "_law_key", "_law_value", "_law_pair", "_law_found", "_law_answer"]
/-- 26: law(_law_script) -/
noncomputable def m_law : MSs := (ss [
    .assign 1 (.call 16 (es [(.call 14 (es [(.var 0), (.lit (.int 0))]))])),
    .assign 2 (.op .mod (es [(.call 14 (es [(.var 0), (.lit (.int 1))])), (.lit (.int 41))])),
    .ite (.or (es [(.op .eq (es [(.op .mod (es [(.op .div (es [(.call 14 (es [(.var 0), (.lit (.int 1))])), (.lit (.int 41))])), (.lit (.int 4))])), (.lit (.int 1))])), (.op .gt (es [(.var 1), (.lit (.int 6))]))])) (ss [
      .assign 2 (.op .mod (es [(.op .mod (es [(.op .mul (es [(.call 14 (es [(.var 0), (.lit (.int 1))])), (.lit (.int 48271))])), (.lit (.int 1009))])), (.lit (.int 201))]))]) (ss []),
    .ite (.op .eq (es [(.op .mod (es [(.op .div (es [(.call 14 (es [(.var 0), (.lit (.int 1))])), (.lit (.int 164))])), (.lit (.int 16))])), (.lit (.int 3))])) (ss [
      .assign 1 (.lit (.int 3)),
      .assign 2 (.op .add (es [(.lit (.int 400)), (.op .mod (es [(.op .mod (es [(.op .mul (es [(.call 14 (es [(.var 0), (.lit (.int 1))])), (.lit (.int 48271))])), (.lit (.int 1009))])), (.lit (.int 801))]))]))]) (ss []),
    .assign 3 (.op .sub (es [(.op .mod (es [(.call 14 (es [(.var 0), (.lit (.int 2))])), (.lit (.int 2000))])), (.lit (.int 1000))])),
    .assign 4 (.comp false (.op .mkTup (es [(.op .add (es [(.var 3), (.op .mul (es [(.lit (.int 3)), (.var 5)]))])), (.op .mul (es [(.lit (.str (Str.ofString "v"))), (.op .mod (es [(.var 5), (.lit (.int 3))]))]))])) (.one 5) (.range (es [(.var 2)])) (es [])),
    .assign 6 (.call 22 (es [(.var 4), (.var 1), (.op .mod (es [(.call 14 (es [(.var 0), (.lit (.int 3))])), (.lit (.int 9000))]))])),
    .assign 7 (.op .dictF (es [(.var 6)])),
    .assign 8 (.op .add (es [(.op .add (es [(.var 3), (.op .mul (es [(.lit (.int 3)), (.op .mod (es [(.call 14 (es [(.var 0), (.lit (.int 4))])), (.op .max2 (es [(.lit (.int 1)), (.var 2)]))]))]))])), (.op .item (es [(.op .mkList (es [(.lit (.int 0)), (.lit (.int 0)), (.lit (.int 1)), (.op .neg (es [(.lit (.int 1))]))])), (.op .mod (es [(.call 14 (es [(.var 0), (.lit (.int 5))])), (.lit (.int 4))]))]))])),
    .ite (.op .eq (es [(.op .mod (es [(.op .div (es [(.call 14 (es [(.var 0), (.lit (.int 5))])), (.lit (.int 4))])), (.lit (.int 7))])), (.lit (.int 1))])) (ss [
      .assign 8 (.op .add (es [(.op .sub (es [(.op .mod (es [(.call 14 (es [(.var 0), (.lit (.int 4))])), (.op .sub (es [(.op .mul (es [(.lit (.int 2)), (.op .pow (es [(.lit (.int 10)), (.lit (.int 60))]))])), (.lit (.int 1))]))])), (.op .pow (es [(.lit (.int 10)), (.lit (.int 60))]))])), (.lit (.int 1))]))]) (ss []),
    .ite (.not (.call 25 (es [(.var 7), (.var 4), (.var 8)]))) (ss [
      .ret (.lit (.bool false))]) (ss []),
    .assign 9 (.op .gt (es [(.op .len (es [(.comp false (.var 10) (.one 10) (.seq (.var 4)) (es [(.op .eq (es [(.op .item (es [(.var 10), (.lit (.int 0))])), (.var 8)]))]))])), (.lit (.int 0))])),
    .assign 11 (.call 17 (es [(.call 14 (es [(.var 0), (.lit (.int 6))]))])),
    .ite (.and (es [(.var 9), (.op .eq (es [(.op .mod (es [(.call 14 (es [(.var 0), (.lit (.int 7))])), (.lit (.int 2))])), (.lit (.int 0))]))])) (ss [
      .assign 11 (.lit .none),
      .assign 12 (.call 13 (es [(.var 7), (.var 1), (.var 8)]))]) (ss [
      .assign 12 (.call 11 (es [(.var 7), (.var 1), (.var 8), (.var 11)]))]),
    .ite (.or (es [(.op .ne (es [(.var 7), (.var 6)])), (.not (.call 23 (es [(.var 6), (.var 12)])))])) (ss [
      .ret (.lit (.bool false))]) (ss []),
    .ret (.op .eq (es [(.call 20 (es [(.call 24 (es [(.var 6), (.var 12)])), (.var 1)])), (.call 18 (es [(.var 4), (.var 8), (.var 11)]))]))])
noncomputable def v_law : List Str := ["_law_script", "_law_width", "_law_size", "_law_first", "_law_row", "_law_k", "_law_blocks", "_law_handed", "_law_key", "_law_there", "_law_pair", "_law_value", "_law_found"]
noncomputable def recs : List DefRec := recsOf PySem.Challenge.pw_uf020012_08
noncomputable def rcd (n : Str) : DefRec := ((recs.find? fun d => d.name == n).getD ⟨n, ⟨[], [], none, [], [], none, []⟩, [], ⟨.function, [], false, false, []⟩, default⟩)
noncomputable def tab : Tab := ⟨[⟨rcd "half", m_half, v_half⟩, ⟨rcd "place", m_place, v_place⟩, ⟨rcd "parts", m_parts, v_parts⟩, ⟨rcd "below", m_below, v_below⟩, ⟨rcd "pairs_of", m_pairs_of, v_pairs_of⟩, ⟨rcd "way_to", m_way_to, v_way_to⟩, ⟨rcd "value_in", m_value_in, v_value_in⟩, ⟨rcd "listed", m_listed, v_listed⟩, ⟨rcd "free_number", m_free_number, v_free_number⟩, ⟨rcd "unlike", m_unlike, v_unlike⟩, ⟨rcd "entry_of", m_entry_of, v_entry_of⟩, ⟨rcd "put_in", m_put_in, v_put_in⟩, ⟨rcd "joined", m_joined, v_joined⟩, ⟨rcd "drop_from", m_drop_from, v_drop_from⟩, ⟨rcd "_law_cell_at", m_law_cell_at, v_law_cell_at⟩, ⟨rcd "_law_whole", m_law_whole, v_law_whole⟩, ⟨rcd "_law_width_by", m_law_width_by, v_law_width_by⟩, ⟨rcd "_law_value_by", m_law_value_by, v_law_value_by⟩, ⟨rcd "_law_held", m_law_held, v_law_held⟩, ⟨rcd "_law_good", m_law_good, v_law_good⟩, ⟨rcd "_law_row_of", m_law_row_of, v_law_row_of⟩, ⟨rcd "_law_level", m_law_level, v_law_level⟩, ⟨rcd "_law_tree_by", m_law_tree_by, v_law_tree_by⟩, ⟨rcd "_law_numbered", m_law_numbered, v_law_numbered⟩, ⟨rcd "_law_behind", m_law_behind, v_law_behind⟩, ⟨rcd "_law_listed", m_law_listed, v_law_listed⟩, ⟨rcd "law", m_law, v_law⟩], gcs_uf020012_08⟩
theorem tab_ag : tab.fns.all (agFn tab.pg) = true := by decide +kernel
end

section
open PySem PyProof.Rows
set_option linter.unusedVariables false
/-! trees by their height: all leaves lie equally deep; E h: what the row of a block of height h is made of -/
noncomputable abbrev Dct := List (Int × V)
noncomputable def sLeaf : Str := Str.ofString "leaf"
noncomputable def sBranch : Str := Str.ofString "branch"
noncomputable def blkV (k : Str) (r : List V) : V := .tup [.str k, .tup r]
noncomputable def intOf : V → Int
  | .int i => i
  | _ => 0
noncomputable def keyOf (p : V) : Int := intOf (fstV p)
noncomputable def E : Nat → Type
  | 0 => V
  | h + 1 => Int × List (E h)
noncomputable abbrev T (h : Nat) : Type := Int × List (E h)
noncomputable abbrev nE {h : Nat} (n : Int) (c : List (E h)) : E (h + 1) := ((n, c) : T h)
noncomputable def keyE : (h : Nat) → E h → Int
  | 0, p => keyOf p
  | h + 1, c => ((c : T h).2.map (keyE h)).headD 0
noncomputable def entE : (h : Nat) → E h → V
  | 0, p => p
  | h + 1, c => .tup [.int (keyE (h + 1) c), .int (c : T h).1]
noncomputable def prsE : (h : Nat) → E h → List V
  | 0, p => [p]
  | h + 1, c => (c : T h).2.flatMap (prsE h)
noncomputable def kindT : Nat → Str
  | 0 => sLeaf
  | _ + 1 => sBranch
noncomputable def rowE (h : Nat) (c : List (E h)) : List V := c.map (entE h)
noncomputable def blkT (h : Nat) (c : List (E h)) : V := blkV (kindT h) (rowE h c)
noncomputable def bksE : (h : Nat) → E h → Dct
  | 0, _ => []
  | h + 1, c => ((c : T h).1, blkT h (c : T h).2) :: (c : T h).2.flatMap (bksE h)
/-- the pairs, the blocks of a forest -/
noncomputable def prsF (h : Nat) (c : List (E h)) : List V := c.flatMap (prsE h)
noncomputable def bksF (h : Nat) (c : List (E h)) : Dct := c.flatMap (bksE h)
theorem prsF_app {h : Nat} {a b : List (E h)} : prsF h (a ++ b) = prsF h a ++ prsF h b := List.flatMap_append
theorem bksF_app {h : Nat} {a b : List (E h)} : bksF h (a ++ b) = bksF h a ++ bksF h b := List.flatMap_append
theorem rowE_app {h : Nat} {a b : List (E h)} : rowE h (a ++ b) = rowE h a ++ rowE h b := List.map_append
theorem prsF_one {h : Nat} {a : E h} : prsF h [a] = prsE h a := List.append_nil _
theorem bksF_one {h : Nat} {a : E h} : bksF h [a] = bksE h a := List.append_nil _
noncomputable def halfI (w : Int) : Int := (w + 1) / 2
/-- every block but the topmost is between half full and full; a pair is a number and a text -/
noncomputable def WfE (w : Int) : (h : Nat) → E h → Prop
  | 0, p => ∃ k s, p = V.tup [.int k, .str s]
  | h + 1, c => (halfI w ≤ (c : T h).2.length ∧ ((c : T h).2.length : Int) ≤ w) ∧ ∀ x ∈ (c : T h).2, WfE w h x
/-- the topmost block: not over full, and a branch has two entries at least -/
structure RootT (w : Int) (h : Nat) (t : T h) : Prop where
  num : t.1 = 0
  two : h ≠ 0 → 2 ≤ t.2.length
  most : (t.2.length : Int) ≤ w
  wf : ∀ x ∈ t.2, WfE w h x
theorem key_ent : ∀ {h : Nat} {x : E h}, keyOf (entE h x) = keyE h x
  | 0, _ => rfl
  | _ + 1, _ => rfl
theorem ent_form {w : Int} : ∀ {h : Nat} {x : E h}, WfE w h x → ∃ y, entE h x = .tup [.int (keyE h x), y]
  | 0, _, ⟨k, s, e⟩ => ⟨.str s, by cases e; rfl⟩
  | _ + 1, _, _ => ⟨_, rfl⟩
/-- the keys of a row rise -/
noncomputable def Ris (ps : List V) : Prop := (ps.map keyOf).Pairwise (· < ·)
theorem two_half {w : Int} (h : 3 ≤ w) : (2 : Int) ≤ halfI w := by unfold halfI; (first | lia | omega)
theorem wf_two {w : Int} (hw : 3 ≤ w) {h : Nat} {c : T h} (hf : WfE w (h + 1) c) : 2 ≤ c.2.length := Int.ofNat_le.mp (Int.le_trans (two_half hw) hf.1.1)
/-- its first pair has the key of a block -/
theorem key_prs {w : Int} (hw : 3 ≤ w) : ∀ {h : Nat} {x : E h}, WfE w h x → ∃ p r, prsE h x = p :: r ∧ keyOf p = keyE h x
  | 0, p, _ => ⟨p, [], rfl, rfl⟩
  | h + 1, (n, cs), hf => by
    cases cs with
    | nil => exact absurd (show 2 ≤ 0 from wf_two hw hf) (by decide)
    | cons c cs =>
      obtain ⟨p, r, e, k⟩ := key_prs hw (hf.2 c (.head _))
      exact ⟨p, r ++ cs.flatMap (prsE h), by show prsE h c ++ _ = _; rw [e]; rfl, k⟩
theorem ris_app {a b : List V} (h : Ris (a ++ b)) : Ris a ∧ Ris b ∧ ∀ x ∈ a, ∀ y ∈ b, keyOf x < keyOf y := by
  unfold Ris at h
  rw [List.map_append] at h
  obtain ⟨h1, h2, h3⟩ := List.pairwise_append.mp h
  exact ⟨h1, h2, fun x hx y hy => h3 _ (List.mem_map_of_mem hx) _ (List.mem_map_of_mem hy)⟩
/-- the keys of a forest rise where its pairs do -/
theorem forest_ris {w : Int} (hw : 3 ≤ w) {h : Nat} : ∀ {cs : List (E h)}, (∀ c ∈ cs, WfE w h c) → Ris (prsF h cs) → (cs.map (keyE h)).Pairwise (· < ·)
  | [], _, _ => .nil
  | c :: cs, hf, hr => by
    obtain ⟨r1, r2, r3⟩ := ris_app (a := prsE h c) (b := prsF h cs) hr
    refine List.pairwise_cons.mpr ⟨fun k hk => ?_, forest_ris hw (fun c hc => hf c (.tail _ hc)) r2⟩
    obtain ⟨d, hd, rfl⟩ := List.mem_map.mp hk
    obtain ⟨p, r, e, k1⟩ := key_prs hw (hf c (.head _))
    obtain ⟨q, r', e', k2⟩ := key_prs hw (hf d (.tail _ hd))
    rw [← k1, ← k2]
    exact r3 p (e ▸ .head _) q (List.mem_flatMap.mpr ⟨d, hd, e' ▸ .head _⟩)
theorem row_keys {h : Nat} {cs : List (E h)} : (rowE h cs).map keyOf = cs.map (keyE h) := by
  unfold rowE
  rw [List.map_map]; exact List.map_congr_left fun x _ => key_ent
theorem row_ris {w : Int} (hw : 3 ≤ w) {h : Nat} {cs : List (E h)} (hf : ∀ c ∈ cs, WfE w h c) (hr : Ris (prsF h cs)) : Ris (rowE h cs) := by
  unfold Ris
  rw [row_keys]; exact forest_ris hw hf hr
end

section
open PySem PyProof.Rows
set_option linter.unusedVariables false
/-! place: the last of the first n keys that is not above k, else 0 -/
noncomputable def plN (ks : List Int) (k : Int) : Nat → Nat
  | 0 => 0
  | n + 1 => if ks.getD n 0 ≤ k then n else plN ks k n
theorem plN_lt (ks : List Int) (k : Int) (n : Nat) (h : 0 < n) : plN ks k n < n := by
  induction n with
  | zero => exact absurd h (Nat.lt_irrefl 0)
  | succ n ih =>
    unfold plN
    by_cases q : ks.getD n 0 ≤ k
    · rw [if_pos q]; exact Nat.lt_succ_self n
    · rw [if_neg q]
      cases n with
      | zero => exact Nat.one_pos
      | succ n => exact Nat.lt_succ_of_lt (ih (Nat.succ_pos n))
theorem plN_above (ks : List Int) (k : Int) : ∀ n i, plN ks k n < i → i < n → k < ks.getD i 0
  | n + 1, i, h, hi => by
    unfold plN at h
    by_cases q : ks.getD n 0 ≤ k
    · rw [if_pos q] at h; exact absurd (Nat.lt_of_lt_of_le h (Nat.le_of_lt_succ hi)) (Nat.lt_irrefl _)
    · rw [if_neg q] at h
      by_cases e : i = n
      · rw [e]; exact Int.not_le.mp q
      · exact plN_above ks k n i h (Nat.lt_of_le_of_ne (Nat.le_of_lt_succ hi) e)
theorem plN_le (ks : List Int) (k : Int) : ∀ n, 0 < plN ks k n → ks.getD (plN ks k n) 0 ≤ k
  | n + 1, h => by
    unfold plN at h ⊢
    by_cases q : ks.getD n 0 ≤ k
    · rw [if_pos q]; exact q
    · rw [if_neg q] at h ⊢; exact plN_le ks k n h
/-- the way down to a key -/
noncomputable def atF (h : Nat) (c : List (E h)) (k : Int) : Nat := plN (c.map (keyE h)) k c.length
theorem at_lt {h : Nat} {c : List (E h)} {k : Int} (h0 : 0 < c.length) : atF h c k < c.length := plN_lt _ _ _ h0
/-- a path that follows a key, with the numbers on it -/
inductive Way (k : Int) {H : Nat} (top : T H) : List Int → List Nat → (h : Nat) → T h → Prop
  | top : Way k top [top.1] [] H top
  | down {ns : List Int} {p : List Nat} {h : Nat} {t : T (h + 1)} {c : T h} : Way k top ns p (h + 1) t → t.2[atF (h + 1) t.2 k]? = some c → Way k top (ns ++ [c.1]) (p ++ [atF (h + 1) t.2 k]) h c
theorem Way.blocks {k : Int} {H : Nat} {top : T H} {ns : List Int} {p : List Nat} {h : Nat} {t : T h} (w : Way k top ns p h t) : ∀ q ∈ bksE (h + 1) t, q ∈ bksE (H + 1) top := by
  induction w with
  | top => exact fun q hq => hq
  | down _ e ih => exact fun q hq => ih q (.tail _ (List.mem_flatMap.mpr ⟨_, List.mem_iff_getElem?.mpr ⟨_, e⟩, hq⟩))
theorem Way.len {k : Int} {H : Nat} {top : T H} {ns : List Int} {p : List Nat} {h : Nat} {t : T h} (w : Way k top ns p h t) : ns.length = p.length + 1 ∧ p.length + h = H := by
  induction w with
  | top => exact ⟨rfl, Nat.zero_add _⟩
  | down _ e ih => exact ⟨by rw [List.length_append, List.length_append, ih.1]; rfl, by rw [List.length_append, ← ih.2]; exact Nat.add_assoc _ _ _ |>.trans (congrArg (_ + ·) (Nat.add_comm _ _))⟩
theorem Way.last {k : Int} {H : Nat} {top : T H} {ns : List Int} {p : List Nat} {h : Nat} {t : T h} (w : Way k top ns p h t) : ∃ r, ns = r ++ [t.1] := by
  cases w with
  | top => exact ⟨[], rfl⟩
  | down _ _ => exact ⟨_, rfl⟩
/-- what a path finds is in order, and has two entries at least where it is a branch -/
theorem Way.wf {w : Int} (hw : 3 ≤ w) {k : Int} {H : Nat} {top : T H} (hR : RootT w H top) {ns : List Int} {p : List Nat} {h : Nat} {t : T h} (W : Way k top ns p h t) :
    (∀ x ∈ t.2, WfE w h x) ∧ (h ≠ 0 → 2 ≤ t.2.length) ∧ (p ≠ [] → WfE w (h + 1) t) := by
  induction W with
  | top => exact ⟨hR.wf, hR.two, fun q => absurd rfl q⟩
  | @down ns p h t c W e ih =>
    have hc := ih.1 c (List.mem_iff_getElem?.mpr ⟨_, e⟩)
    exact ⟨hc.2, fun _ => wf_two hw hc, fun _ => hc⟩
theorem Way.ris {k : Int} {H : Nat} {top : T H} (hr : Ris (prsF H top.2)) {ns : List Int} {p : List Nat} {h : Nat} {t : T h} (W : Way k top ns p h t) : Ris (prsF h t.2) := by
  induction W with
  | top => exact hr
  | @down ns p h t c W e ih =>
    obtain ⟨a, b, hab⟩ := List.append_of_mem (List.mem_iff_getElem?.mpr ⟨_, e⟩)
    rw [hab, prsF_app] at ih
    exact (ris_app (a := prsE (h + 1) c) (b := prsF (h + 1) b) (ris_app ih).2.1).1
end

section
open PySem PyProof.Rows
set_option linter.unusedVariables false
/-! the least free number -/
noncomputable def frF (used : List Int) : Nat → Int → Int
  | 0, m => m
  | f + 1, m => if m ∈ used then frF used f (m + 1) else m
theorem filt_lt {used : List Int} {m : Int} (h : m ∈ used) : (used.filter fun x => decide (m + 1 ≤ x)).length < (used.filter fun x => decide (m ≤ x)).length := by
  induction used with
  | nil => exact (List.not_mem_nil h).elim
  | cons a l ih =>
    have le : (l.filter fun x => decide (m + 1 ≤ x)).length ≤ (l.filter fun x => decide (m ≤ x)).length := by
      rw [← List.countP_eq_length_filter, ← List.countP_eq_length_filter]
      exact List.countP_mono_left fun x _ hx => decide_eq_true (Int.le_trans (Int.le_of_lt (Int.lt_succ m)) (of_decide_eq_true hx))
    by_cases q : m = a
    · subst q
      rw [List.filter_cons_of_neg (by simp; exact Int.lt_succ m), List.filter_cons_of_pos (by simp)]
      exact Nat.lt_succ_of_le le
    · have hm : m ∈ l := (List.mem_cons.mp h).resolve_left q
      by_cases r : m + 1 ≤ a
      · rw [List.filter_cons_of_pos (by simp; exact r), List.filter_cons_of_pos (by simp; (first | lia | omega))]
        exact Nat.succ_lt_succ (ih hm)
      · rw [List.filter_cons_of_neg (by simp; exact Int.not_le.mp r), List.filter_cons_of_neg (by simp; (first | lia | omega))]
        exact ih hm
theorem frF_ok {used : List Int} : ∀ {f : Nat} {m : Int}, (used.filter fun x => decide (m ≤ x)).length < f → frF used f m ∉ used ∧ m ≤ frF used f m ∧ ∀ x, m ≤ x → x < frF used f m → x ∈ used
  | f + 1, m, h => by
    unfold frF
    by_cases q : m ∈ used
    · rw [if_pos q]
      obtain ⟨h1, h2, h3⟩ := frF_ok (f := f) (m := m + 1) (Nat.lt_of_lt_of_le (filt_lt q) (Nat.le_of_lt_succ h))
      refine ⟨h1, Int.le_trans (Int.le_of_lt (Int.lt_succ m)) h2, fun x hx hl => ?_⟩
      by_cases e : x = m
      · rw [e]; exact q
      · exact h3 x (Int.lt_iff_add_one_le.mp (by (first | lia | omega))) hl
    · rw [if_neg q]
      exact ⟨q, Int.le_refl _, fun x hx hl => absurd (Int.lt_of_le_of_lt hx hl) (Int.lt_irrefl _)⟩
noncomputable def frN (used : List Int) : Int := frF used (used.length + 1) 1
theorem frN_ok (used : List Int) : frN used ∉ used ∧ 1 ≤ frN used ∧ ∀ x, 1 ≤ x → x < frN used → x ∈ used :=
  frF_ok (Nat.lt_succ_of_le (List.length_filter_le _ _))
/-! what parts makes of a list -/
noncomputable def cutL {α : Type} (w : Int) (xs : List α) : List (List α) := if (xs.length : Int) ≤ w then [xs] else [xs.take (xs.length / 2), xs.drop (xs.length / 2)]
/-- the pairs of a leaf with a key put in -/
noncomputable def insRow (row : List V) (k : Int) (v : V) : List V := row.filter (fun p => decide (keyOf p < k)) ++ [.tup [.int k, v]] ++ row.filter (fun p => decide (k < keyOf p))
noncomputable def delRow (row : List V) (k : Int) : List V := row.filter (fun p => !decide (keyOf p = k))
end

section
open PySem PyProof.Rows
set_option linter.unusedVariables false
theorem frN_unique {used : List Int} {m : Int} (h1 : m ∉ used) (h2 : 1 ≤ m) (h3 : ∀ x, 1 ≤ x → x < m → x ∈ used) : m = frN used := by
  obtain ⟨g1, g2, g3⟩ := frN_ok used
  rcases Int.lt_trichotomy m (frN used) with h | h | h
  · exact absurd (g3 m h2 h) h1
  · exact h
  · exact absurd (h3 _ g2 h) g1
theorem filter_all {p : V → Bool} {l : List V} (h : ∀ x ∈ l, p x = true) : l.filter p = l := List.filter_eq_self.mpr h
theorem filter_no {p : V → Bool} {l : List V} (h : ∀ x ∈ l, p x = false) : l.filter p = [] := List.filter_eq_nil_iff.mpr fun x hx => by rw [h x hx]; exact Bool.false_ne_true
/-- what is done to a row at a key lies between what is ahead and what is behind -/
noncomputable def Mid (k : Int) (f : List V → List V) : Prop := ∀ a b c : List V, (∀ x ∈ a, keyOf x < k) → (∀ x ∈ c, k < keyOf x) → f (a ++ b ++ c) = a ++ f b ++ c
theorem ins_mid {k : Int} {v : V} : Mid k fun r => insRow r k v := by
  intro a b c ha hc
  show insRow (a ++ b ++ c) k v = a ++ insRow b k v ++ c
  unfold insRow
  rw [List.filter_append, List.filter_append, List.filter_append, List.filter_append,
    filter_all (l := a) fun x hx => decide_eq_true (ha x hx), filter_no (l := c) fun x hx => decide_eq_false fun q => absurd (Int.lt_trans q (hc x hx)) (Int.lt_irrefl _),
    filter_no (l := a) fun x hx => decide_eq_false fun q => absurd (Int.lt_trans q (ha x hx)) (Int.lt_irrefl _), filter_all (l := c) fun x hx => decide_eq_true (hc x hx)]
  simp only [List.append_nil, List.nil_append, List.append_assoc]
theorem del_mid {k : Int} : Mid k fun r => delRow r k := by
  intro a b c ha hc
  show delRow (a ++ b ++ c) k = a ++ delRow b k ++ c
  unfold delRow
  rw [List.filter_append, List.filter_append,
    filter_all (l := a) fun x hx => by rw [decide_eq_false fun q => absurd (q ▸ ha x hx) (Int.lt_irrefl _)]; rfl,
    filter_all (l := c) fun x hx => by rw [decide_eq_false fun q => absurd (q ▸ hc x hx) (Int.lt_irrefl _)]; rfl]
theorem insRow_len {k : Int} {v : V} : ∀ {row : List V}, Ris row → row.length ≤ (insRow row k v).length + 0 ∧ (insRow row k v).length ≤ row.length + 1
  | [], _ => ⟨Nat.zero_le _, Nat.le_refl _⟩
  | p :: row, hr => by
    obtain ⟨h1, h2⟩ := List.pairwise_cons.mp hr
    obtain ⟨i1, i2⟩ := insRow_len (k := k) (v := v) h2
    unfold insRow at i1 i2 ⊢
    simp only [List.length_append, List.length_cons, List.length_nil] at i1 i2 ⊢
    rcases Int.lt_trichotomy (keyOf p) k with q | q | q
    · rw [List.filter_cons_of_pos (by simp; exact q), List.filter_cons_of_neg (by simp; exact Int.le_of_lt q)]
      simp only [List.length_cons]; (first | lia | omega)
    · have e1 : row.filter (fun p => decide (keyOf p < k)) = [] := filter_no fun x hx => decide_eq_false (by have := h1 _ (List.mem_map_of_mem hx); (first | lia | omega))
      have e2 : row.filter (fun p => decide (k < keyOf p)) = row := filter_all fun x hx => decide_eq_true (by have := h1 _ (List.mem_map_of_mem hx); (first | lia | omega))
      rw [List.filter_cons_of_neg (by simp; exact Int.le_of_eq q.symm), List.filter_cons_of_neg (by simp; exact Int.le_of_eq q), e1, e2]
      simp only [List.length_nil]; (first | lia | omega)
    · rw [List.filter_cons_of_neg (by simp; exact Int.le_of_lt q), List.filter_cons_of_pos (by simp; exact q)]
      simp only [List.length_cons]; (first | lia | omega)
theorem delRow_len {k : Int} : ∀ {row : List V}, Ris row → row.length ≤ (delRow row k).length + 1 ∧ (delRow row k).length ≤ row.length + 0
  | [], _ => ⟨Nat.zero_le _, Nat.le_refl _⟩
  | p :: row, hr => by
    obtain ⟨h1, h2⟩ := List.pairwise_cons.mp hr
    obtain ⟨i1, i2⟩ := delRow_len (k := k) h2
    unfold delRow at i1 i2 ⊢
    by_cases q : keyOf p = k
    · have e2 : row.filter (fun p => !decide (keyOf p = k)) = row := filter_all fun x hx => by
        rw [decide_eq_false (fun e => by have := h1 _ (List.mem_map_of_mem hx); rw [q, e] at this; exact Int.lt_irrefl _ this)]; rfl
      rw [List.filter_cons_of_neg (by simp; exact q), e2]
      exact ⟨Nat.le_refl _, Nat.le_succ _⟩
    · rw [List.filter_cons_of_pos (by simp; exact q)]
      exact ⟨Nat.succ_le_succ i1, Nat.succ_le_succ i2⟩
theorem getD_map {α : Type} {f : α → Int} {l : List α} {i : Nat} {x : α} (h : l[i]? = some x) : (l.map f).getD i 0 = f x := by
  rw [List.getD_eq_getElem?_getD, List.getElem?_map, h]; rfl
theorem split_at {α : Type} {l : List α} {i : Nat} {x : α} (h : l[i]? = some x) : l = l.take i ++ [x] ++ l.drop (i + 1) := by
  obtain ⟨hi, e⟩ := List.getElem?_eq_some_iff.mp h
  rw [List.append_assoc]
  conv => lhs; rw [← List.take_append_drop i l, List.drop_eq_getElem_cons hi, e]
  rfl
theorem prs_split {h : Nat} {t : List (E h)} {i : Nat} {c : E h} (e : t[i]? = some c) : prsF h t = prsF h (t.take i) ++ prsE h c ++ prsF h (t.drop (i + 1)) := by
  conv => lhs; rw [split_at e]
  rw [prsF_app, prsF_app, prsF_one]
/-- where the way goes: all ahead lies below the key, all behind above it -/
theorem way_between {w : Int} (hw : 3 ≤ w) {h : Nat} {t : List (E h)} {k : Int} {c : E h} (hf : ∀ c ∈ t, WfE w h c) (hr : Ris (prsF h t)) (e : t[atF h t k]? = some c) :
    (∀ x ∈ prsF h (t.take (atF h t k)), keyOf x < k) ∧ ∀ x ∈ prsF h (t.drop (atF h t k + 1)), k < keyOf x := by
  have hr' := hr
  rw [prs_split e] at hr'
  obtain ⟨r1, r2, r3⟩ := ris_app hr'
  obtain ⟨r4, r5, r6⟩ := ris_app r1
  have hc : c ∈ t := List.mem_iff_getElem?.mpr ⟨_, e⟩
  obtain ⟨p, r, ep, kp⟩ := key_prs hw (hf c hc)
  constructor
  · intro x hx
    have h0 : 0 < atF h t k := by
      cases q : atF h t k with
      | zero => rw [q] at hx; exact (List.not_mem_nil hx).elim
      | succ n => exact Nat.succ_pos n
    have hk : keyE h c ≤ k := by
      have := plN_le (t.map (keyE h)) k t.length h0
      rw [show plN (t.map (keyE h)) k t.length = atF h t k from rfl, getD_map e] at this
      exact this
    exact Int.lt_of_lt_of_le (r6 x hx p (ep ▸ .head _)) (kp ▸ hk)
  · intro x hx
    obtain ⟨d, hd, hx⟩ := List.mem_flatMap.mp hx
    obtain ⟨j, hj⟩ := List.mem_iff_getElem?.mp hd
    rw [List.getElem?_drop] at hj
    have hd' : d ∈ t := List.mem_iff_getElem?.mpr ⟨_, hj⟩
    have hlt : atF h t k + 1 + j < t.length := (List.getElem?_eq_some_iff.mp hj).1
    have := plN_above (t.map (keyE h)) k t.length (atF h t k + 1 + j) (Nat.lt_of_lt_of_le (Nat.lt_succ_self _) (Nat.le_add_right _ _)) hlt
    rw [getD_map hj] at this
    obtain ⟨q, r', eq, kq⟩ := key_prs hw (hf d hd')
    refine Int.lt_of_lt_of_le this ?_
    rw [← kq]
    rw [eq] at hx
    rcases List.mem_cons.mp hx with rfl | hx
    · exact Int.le_refl _
    · have hri : Ris (q :: r') := by
        rw [prs_split hj, eq] at hr
        exact (ris_app (ris_app hr).1).2.1
      exact Int.le_of_lt ((List.pairwise_cons.mp hri).1 _ (List.mem_map_of_mem hx))
end

section
open PySem PyProof.Rows
set_option linter.unusedVariables false
/-! the first free numbers -/
noncomputable def frs (used : List Int) : Nat → List Int
  | 0 => []
  | n + 1 => frs used n ++ [frN (used ++ frs used n)]
theorem frs_not {used : List Int} {j : Int} : ∀ {m : Nat}, j ∈ frs used m → j ∉ used
  | m + 1, h => by
    rcases List.mem_append.mp h with h | h
    · exact frs_not h
    · rw [List.mem_singleton.mp h]
      exact fun q => (frN_ok _).1 (List.mem_append.mpr (.inl q))
theorem frs_nodup {used : List Int} : ∀ {m : Nat}, (frs used m).Nodup
  | 0 => .nil
  | m + 1 => List.nodup_append.mpr ⟨frs_nodup, List.nodup_cons.mpr ⟨List.not_mem_nil, .nil⟩, fun a ha b hb e => (frN_ok (used ++ frs used m)).1 (List.mem_append.mpr (.inr (List.mem_singleton.mp hb ▸ e ▸ ha)))⟩
theorem frN_congr {a b : List Int} (h : ∀ x, x ∈ a ↔ x ∈ b) : frN a = frN b := by
  obtain ⟨h1, h2, h3⟩ := frN_ok a
  exact frN_unique (fun q => h1 ((h _).mpr q)) h2 fun x q r => (h x).mp (h3 x q r)
/-! what has been written: D is to become D'; the m first free numbers are taken, those in go are given up -/
structure St (B D D' ch : Dct) (m : Nat) (go : List Int) : Prop where
  perm : (keysD D' ++ go).Perm (keysD D ++ frs (keysD B) m)
  has : ∀ q ∈ D', lookD q.1 ch = some q.2 ∨ (lookD q.1 ch = none ∧ lookD q.1 B = some q.2)
  keys : ∀ j ∈ keysD ch, j ∈ keysD D ∨ j ∈ frs (keysD B) m
  gone : ∀ g ∈ go, lookD g ch = some .none
  news : (keysD ch).filter (fun j => (lookD j B).isNone) = frs (keysD B) m
  inB : ∀ j ∈ keysD D, j ∈ keysD B
variable {B D D' ch E1 E2 : Dct} {m : Nat} {go : List Int}
theorem St.nil : St B [] [] [] 0 [] := ⟨.nil, fun q hq => (List.not_mem_nil hq).elim, fun j hj => (List.not_mem_nil hj).elim, fun j hj => (List.not_mem_nil hj).elim, rfl, fun j hj => (List.not_mem_nil hj).elim⟩
theorem St.of_perm (s : St B D D' ch m go) (h : D.Perm E1) (h' : D'.Perm E2) : St B E1 E2 ch m go :=
  ⟨((h'.map _).symm.append_right go).trans (s.perm.trans ((h.map _).append_right _)), fun q hq => s.has q (h'.mem_iff.mpr hq), fun j hj => (s.keys j hj).imp (fun q => (h.map _).mem_iff.mp q) id, s.gone, s.news,
    fun j hj => s.inB j ((h.map _).mem_iff.mpr hj)⟩
theorem isNone_mem {j : Int} : (lookD j B).isNone = true ↔ j ∉ keysD B := Option.isNone_iff_eq_none.trans lookD_none
theorem mem_keysD {q : Int × V} (h : q ∈ B) : q.1 ∈ keysD B := List.mem_map_of_mem h
theorem look_mem {j : Int} {b : V} (h : lookD j B = some b) : j ∈ keysD B := List.mem_map_of_mem (lookD_some_mem h)
theorem St.lift {A : Dct} (s : St B D D' ch m go) (hA : ∀ q ∈ A, lookD q.1 B = some q.2) (hd : ∀ j ∈ keysD A, j ∉ keysD D) : St B (A ++ D) (A ++ D') ch m go := by
  refine ⟨?_, fun q hq => ?_, fun j hj => (s.keys j hj).imp (fun q => ?_) id, s.gone, s.news, fun j hj => ?_⟩
  · unfold keysD
    rw [List.map_append, List.map_append, List.append_assoc, List.append_assoc]
    exact s.perm.append_left _
  · rcases List.mem_append.mp hq with hq | hq
    · refine .inr ⟨lookD_none.mpr fun h => ?_, hA q hq⟩
      rcases s.keys _ h with h | h
      · exact hd _ (List.mem_map_of_mem hq) h
      · exact frs_not h (look_mem (hA q hq))
    · exact s.has q hq
  · unfold keysD; rw [List.map_append]; exact List.mem_append.mpr (.inr q)
  · unfold keysD at hj; rw [List.map_append] at hj
    rcases List.mem_append.mp hj with hj | hj
    · obtain ⟨q, hq, rfl⟩ := List.mem_map.mp hj
      exact look_mem (hA q hq)
    · exact s.inB j hj
theorem news_put {n : Int} {b : V} (h : n ∈ keysD B) : (keysD (putD n b ch)).filter (fun j => (lookD j B).isNone) = (keysD ch).filter (fun j => (lookD j B).isNone) := by
  rw [keys_put]
  by_cases q : n ∈ keysD ch
  · rw [if_pos q]
  · rw [if_neg q, List.filter_append, List.filter_cons_of_neg (p := fun j => (lookD j B).isNone) (fun r => isNone_mem.mp r h)]
    exact List.append_nil _
theorem mem_keys_put {n j : Int} {b : V} : j ∈ keysD (putD n b ch) ↔ j = n ∨ j ∈ keysD ch := putD_keys_mem
theorem St.gen {n : Int} {b : V} {go' : List Int} (s : St B D D' ch m go) (hB : n ∈ keysD B) (hp : (keysD E2 ++ go').Perm (keysD E1 ++ frs (keysD B) m))
    (hh : ∀ q ∈ E2, (q.1 = n ∧ q.2 = b) ∨ (q.1 ≠ n ∧ q ∈ D')) (hg : ∀ g ∈ go', (g = n ∧ b = .none) ∨ (g ≠ n ∧ g ∈ go)) (hD : ∀ j, j ∈ keysD E1 ↔ j = n ∨ j ∈ keysD D) : St B E1 E2 (putD n b ch) m go' := by
  refine ⟨hp, fun q hq => ?_, fun j hj => ?_, fun g hq => ?_, (news_put hB).trans s.news, fun j hj => ?_⟩
  · rcases hh q hq with ⟨h1, h2⟩ | ⟨h1, h2⟩
    · rw [lookD_put, if_pos h1, h2]; exact .inl rfl
    · rw [lookD_put, if_neg h1]; exact s.has q h2
  · rcases mem_keys_put.mp hj with h | h
    · exact .inl ((hD j).mpr (.inl h))
    · exact (s.keys j h).imp (fun q => (hD j).mpr (.inr q)) id
  · rcases hg g hq with ⟨h1, h2⟩ | ⟨h1, h2⟩
    · rw [lookD_put, if_pos h1, h2]
    · rw [lookD_put, if_neg h1]; exact s.gone g h2
  · rcases (hD j).mp hj with rfl | h
    · exact hB
    · exact s.inB j h
theorem St.far {n : Int} (s : St B D D' ch m go) (hn : n ∉ keysD D) (hB : n ∈ keysD B) {j : Int} (hj : j ∈ keysD D' ++ go) : j ≠ n := by
  rintro rfl
  rcases List.mem_append.mp (s.perm.mem_iff.mp hj) with h | h
  · exact hn h
  · exact frs_not h hB
/-- a block of its own number is written -/
theorem St.own {n : Int} {b0 b : V} (s : St B D D' ch m go) (hn : n ∉ keysD D) (hB : n ∈ keysD B) : St B ((n, b0) :: D) ((n, b) :: D') (putD n b ch) m go := by
  refine s.gen hB (s.perm.cons n) (fun q hq => ?_) (fun g hg => .inr ⟨s.far hn hB (List.mem_append.mpr (.inr hg)), hg⟩) fun j => List.mem_cons
  rcases List.mem_cons.mp hq with rfl | hq
  · exact .inl ⟨rfl, rfl⟩
  · exact .inr ⟨s.far hn hB (List.mem_append.mpr (.inl (List.mem_map_of_mem hq))), hq⟩
/-- a block is given up -/
theorem St.give {n : Int} {b0 : V} (s : St B D D' ch m go) (hn : n ∉ keysD D) (hB : n ∈ keysD B) : St B ((n, b0) :: D) D' (putD n .none ch) m (n :: go) := by
  refine s.gen hB (List.perm_middle.trans (s.perm.cons n)) (fun q hq => .inr ⟨s.far hn hB (List.mem_append.mpr (.inl (List.mem_map_of_mem hq))), hq⟩) (fun g hg => ?_) fun j => List.mem_cons
  rcases List.mem_cons.mp hg with rfl | hg
  · exact .inl ⟨rfl, rfl⟩
  · exact .inr ⟨s.far hn hB (List.mem_append.mpr (.inr hg)), hg⟩
theorem St.nodup (s : St B D D' ch m go) (hn : (keysD D).Nodup) : (keysD D' ++ go).Nodup :=
  s.perm.nodup_iff.mpr (List.nodup_append.mpr ⟨hn, frs_nodup, fun a ha b hb e => frs_not hb (s.inB _ (e ▸ ha))⟩)
/-- a block that was written is written anew -/
theorem St.over {n : Int} {b b' : V} (s : St B D ((n, b) :: D') ch m go) (hn : (keysD D).Nodup) (hD : n ∈ keysD D) : St B D ((n, b') :: D') (putD n b' ch) m go := by
  have nd : n ∉ keysD D' ++ go := (List.nodup_cons.mp (s.nodup hn)).1
  refine s.gen (s.inB n hD) s.perm (fun q hq => ?_) (fun g hg => .inr ⟨fun e => nd (List.mem_append.mpr (.inr (e ▸ hg))), hg⟩) fun j => ⟨.inr, fun h => h.elim (fun e => e ▸ hD) id⟩
  rcases List.mem_cons.mp hq with rfl | hq
  · exact .inl ⟨rfl, rfl⟩
  · exact .inr ⟨fun e => nd (List.mem_append.mpr (.inl (e ▸ mem_keysD hq))), .tail _ hq⟩
/-- a block that was kept is given up after all -/
theorem St.quit {n : Int} {b : V} (s : St B D ((n, b) :: D') ch 0 go) (hn : (keysD D).Nodup) : St B D D' (putD n .none ch) 0 (n :: go) := by
  have nd : n ∉ keysD D' ++ go := (List.nodup_cons.mp (s.nodup hn)).1
  have hD : n ∈ keysD D := by
    have := s.perm.mem_iff.mp (List.mem_cons_self (a := n))
    rw [show frs (keysD B) 0 = [] from rfl, List.append_nil] at this; exact this
  refine s.gen (s.inB n hD) (List.perm_middle.trans s.perm) (fun q hq => .inr ⟨fun e => nd (List.mem_append.mpr (.inl (e ▸ mem_keysD hq))), .tail _ hq⟩) (fun g hg => ?_)
    fun j => ⟨.inr, fun h => h.elim (fun e => e ▸ hD) id⟩
  rcases List.mem_cons.mp hg with rfl | hg
  · exact .inl ⟨rfl, rfl⟩
  · exact .inr ⟨fun e => nd (List.mem_append.mpr (.inr (e ▸ hg))), hg⟩
/-- a block is written under the least free number -/
theorem St.fresh {f : Int} {b : V} (s : St B D D' ch m go) (hf : f = frN (keysD B ++ keysD ch)) : St B D ((f, b) :: D') (putD f b ch) (m + 1) go := by
  have hc : f = frN (keysD B ++ frs (keysD B) m) := by
    rw [hf]
    refine frN_congr fun x => ?_
    rw [List.mem_append, List.mem_append, ← s.news, List.mem_filter]
    exact ⟨fun h => h.elim .inl fun h => (Classical.em (x ∈ keysD B)).imp id fun q => ⟨h, isNone_mem.mpr q⟩, fun h => h.imp id And.left⟩
  have hm := (frN_ok (keysD B ++ keysD ch)).1
  rw [← hf] at hm
  have hfB : f ∉ keysD B := fun q => hm (List.mem_append.mpr (.inl q))
  have hfc : f ∉ keysD ch := fun q => hm (List.mem_append.mpr (.inr q))
  have he : frs (keysD B) (m + 1) = frs (keysD B) m ++ [f] := by rw [hc]; rfl
  have far : ∀ {j : Int}, j ∈ keysD D' ++ go → j ≠ f := by
    rintro j hj rfl
    rcases List.mem_append.mp (s.perm.mem_iff.mp hj) with h | h
    · exact hfB (s.inB _ h)
    · exact hfc (List.mem_filter.mp (s.news.symm ▸ h)).1
  refine ⟨?_, fun q hq => ?_, fun j hj => ?_, fun g hg => ?_, ?_, s.inB⟩
  · rw [he, ← List.append_assoc]
    exact (s.perm.cons f).trans (List.perm_append_singleton f _).symm
  · rcases List.mem_cons.mp hq with rfl | hq
    · rw [lookD_put, if_pos rfl]; exact .inl rfl
    · rw [lookD_put, if_neg (far (List.mem_append.mpr (.inl (List.mem_map_of_mem hq))))]; exact s.has q hq
  · rw [he]
    rcases mem_keys_put.mp hj with rfl | h
    · exact .inr (List.mem_append.mpr (.inr (.head _)))
    · exact (s.keys j h).imp id fun q => List.mem_append.mpr (.inl q)
  · rw [lookD_put, if_neg (far (List.mem_append.mpr (.inr hg)))]; exact s.gone g hg
  · rw [keys_put, if_neg hfc, List.filter_append, s.news, he, List.filter_cons_of_pos (p := fun j => (lookD j B).isNone) (isNone_mem.mpr hfB)]; rfl
/-! what stands in the end -/
noncomputable def noneOr : V → Option V
  | .none => none
  | v => some v
theorem St.look (s : St B D D' ch m go) (hn : (keysD D).Nodup) (hB : ∀ j ∈ keysD B, j ∈ keysD D) (ho : ∀ q ∈ D', noneOr q.2 = some q.2) (j : Int) : lookD j D' = (lookD j ch).elim (lookD j B) noneOr := by
  by_cases h : j ∈ keysD D'
  · obtain ⟨q, hq, rfl⟩ := List.mem_map.mp h
    rw [mem_lookD (List.nodup_append.mp (s.nodup hn)).1 hq]
    rcases s.has q hq with e | ⟨e, e'⟩
    · rw [e]; exact (ho q hq).symm
    · rw [e]; exact e'.symm
  · rw [lookD_none.mpr h]
    by_cases g : j ∈ go
    · rw [s.gone j g]; rfl
    · have hj : j ∉ keysD D ++ frs (keysD B) m := fun q => by
        rcases List.mem_append.mp (s.perm.mem_iff.mpr q) with q | q
        · exact h q
        · exact g q
      rw [lookD_none.mpr fun q => hj (List.mem_append.mpr (s.keys j q)), lookD_none.mpr fun q => hj (List.mem_append.mpr (.inl (hB j q)))]; rfl
end

section
open PySem PyProof.Rows
set_option linter.unusedVariables false
section
variable {B L X Y R ch : Dct} {m : Nat} {go : List Int}
theorem keys_app {a b : Dct} : keysD (a ++ b) = keysD a ++ keysD b := List.map_append
theorem mid_perm {α : Type} {l x r : List α} : (l ++ r ++ x).Perm (l ++ x ++ r) := by
  rw [List.append_assoc, List.append_assoc]; exact List.perm_append_comm.append_left l
/-- what is done to some blocks leaves those ahead and behind as they are -/
theorem St.mid (s : St B X Y ch m go) (hB : ∀ q ∈ L ++ X ++ R, lookD q.1 B = some q.2) (hn : (keysD (L ++ X ++ R)).Nodup) : St B (L ++ X ++ R) (L ++ Y ++ R) ch m go := by
  refine (s.lift (A := L ++ R) (fun q hq => hB q (mid_perm.mem_iff.mp (List.mem_append.mpr (.inl hq)))) fun j hj hx => ?_).of_perm mid_perm mid_perm
  have := (((mid_perm (l := L) (x := X) (r := R)).map (fun q : Int × V => q.1)).nodup_iff.mpr hn)
  rw [List.map_append] at this
  exact (List.nodup_append.mp this).2.2 j hj j hx rfl
end
theorem put_put {α : Type} {k : Int} {u v : α} : ∀ {l : List (Int × α)}, putD k v (putD k u l) = putD k v l
  | [] => by show (if k = k then _ else _) = _; rw [if_pos rfl]; rfl
  | (j, x) :: l => by
    by_cases q : j = k
    · show putD k v (if j = k then _ else _) = if j = k then _ else _
      rw [if_pos q, if_pos q]; show (if j = k then _ else _) = _; rw [if_pos q]
    · show putD k v (if j = k then _ else _) = if j = k then _ else _
      rw [if_neg q, if_neg q]; show (if j = k then _ else _) = _; rw [if_neg q, put_put]
/-- the two halves of what is over full -/
theorem cut_wf {α : Type} {w : Int} {xs : List α} (h1 : w < xs.length) (h2 : (xs.length : Int) ≤ 2 * w) :
    (halfI w ≤ (xs.take (xs.length / 2)).length ∧ ((xs.take (xs.length / 2)).length : Int) ≤ w) ∧ halfI w ≤ (xs.drop (xs.length / 2)).length ∧ ((xs.drop (xs.length / 2)).length : Int) ≤ w := by
  rw [List.length_take, List.length_drop]; unfold halfI; (first | lia | omega)
/-- what a change has made of a block's row t so far: c, not yet cut; a, b: by how many it may be shorter or longer -/
structure Pn (w : Int) (f : List V → List V) (a b : Nat) (B : Dct) {h : Nat} (t c : List (E h)) (ch : Dct) (m : Nat) (go : List Int) : Prop where
  prs : prsF h c = f (prsF h t)
  wf : ∀ x ∈ c, WfE w h x
  lo : t.length ≤ c.length + a
  hi : c.length ≤ t.length + b
  st : St B (bksF h t) (bksF h c) ch m go
/-- the block n with the row t, among its parent's others -/
structure Cu (w : Int) (f : List V → List V) (B : Dct) {h : Nat} (L : List (E (h + 1))) (n : Int) (t : List (E h)) (R : List (E (h + 1))) : Prop where
  mid : f (prsF (h + 1) (L ++ [nE n t] ++ R)) = prsF (h + 1) L ++ f (prsF h t) ++ prsF (h + 1) R
  wf : ∀ x ∈ L ++ [nE n t] ++ R, WfE w (h + 1) x
  inB : ∀ q ∈ bksF (h + 1) (L ++ [nE n t] ++ R), lookD q.1 B = some q.2
  nd : (keysD (bksF (h + 1) (L ++ [nE n t] ++ R))).Nodup
section
variable {w : Int} {f : List V → List V} {a b : Nat} {B : Dct} {h : Nat} {L R : List (E (h + 1))} {n : Int} {t c : List (E h)} {ch : Dct} {m : Nat} {go : List Int}
theorem Pn.up (hp : Pn w f a b B t c ch m go) (cx : Cu w f B L n t R) {L' X Y R' : List (E (h + 1))} {ch' : Dct} {m' : Nat} {go' : List Int} (eX : L ++ [nE n t] ++ R = L' ++ X ++ R')
    (ep : prsF (h + 1) L' ++ prsF (h + 1) Y ++ prsF (h + 1) R' = prsF (h + 1) L ++ prsF h c ++ prsF (h + 1) R) (wfY : ∀ y ∈ Y, WfE w (h + 1) y) (lo : X.length ≤ Y.length + a) (hi : Y.length ≤ X.length + b)
    (st : St B (bksF (h + 1) X) (bksF (h + 1) Y) ch' m' go') : Pn w f a b B (L ++ [nE n t] ++ R) (L' ++ Y ++ R') ch' m' go' := by
  obtain ⟨c1, c2, c3, c4⟩ := cx
  refine ⟨?_, fun x hx => ?_, ?_, ?_, ?_⟩
  · rw [c1, ← hp.prs, ← ep, prsF_app, prsF_app]
  · rw [eX] at c2
    rcases List.mem_append.mp hx with hx | hx
    · rcases List.mem_append.mp hx with hx | hx
      · exact c2 x (List.mem_append.mpr (.inl (List.mem_append.mpr (.inl hx))))
      · exact wfY x hx
    · exact c2 x (List.mem_append.mpr (.inr hx))
  · rw [eX, List.length_append, List.length_append, List.length_append, List.length_append]; (first | lia | omega)
  · rw [eX, List.length_append, List.length_append, List.length_append, List.length_append]; (first | lia | omega)
  · rw [eX] at c3 c4 ⊢
    rw [bksF_app, bksF_app] at c3 c4 ⊢
    rw [bksF_app, bksF_app]
    exact st.mid c3 c4
theorem Cu.own (cx : Cu w f B L n t R) : n ∉ keysD (bksF h t) ∧ n ∈ keysD B := by
  have hm : ((n, blkT h t) : Int × V) ∈ bksF (h + 1) (L ++ [nE n t] ++ R) := by
    rw [bksF_app, bksF_app, bksF_one]; exact List.mem_append.mpr (.inl (List.mem_append.mpr (.inr (.head _))))
  refine ⟨?_, look_mem (cx.inB _ hm)⟩
  have := cx.nd
  rw [bksF_app, bksF_app, keys_app, keys_app, bksF_one] at this
  exact (List.nodup_cons.mp (List.nodup_append.mp (List.nodup_append.mp this).1).2.1).1
/-- the block stays one -/
theorem Pn.keep (hp : Pn w f a b B t c ch m go) (cx : Cu w f B L n t R) (h1 : halfI w ≤ c.length) (h2 : (c.length : Int) ≤ w) :
    Pn w f a b B (L ++ [nE n t] ++ R) (L ++ [nE n c] ++ R) (putD n (blkT h c) ch) m go := by
  refine hp.up cx rfl (by rw [prsF_one]; rfl) (fun y hy => ?_) (Nat.le_add_right _ _) (Nat.le_add_right _ _) ?_
  · rw [List.mem_singleton.mp hy]; exact ⟨⟨h1, h2⟩, hp.wf⟩
  · rw [bksF_one, bksF_one]; exact hp.st.own cx.own.1 cx.own.2
theorem two_flat {x y : Int} {c1 c2 : List (E h)} : prsF (h + 1) [nE x c1, nE y c2] = prsF h (c1 ++ c2) := by
  rw [prsF_app]; exact congrArg (prsF h c1 ++ ·) (List.append_nil _)
theorem two_bks {x y : Int} {c1 c2 : List (E h)} : (((y, blkT h c2) : Int × V) :: (x, blkT h c1) :: bksF h (c1 ++ c2)).Perm (bksF (h + 1) [nE x c1, nE y c2]) := by
  rw [bksF_app]
  show List.Perm _ (((x, blkT h c1) :: bksF h c1) ++ (((y, blkT h c2) :: bksF h c2) ++ []))
  rw [List.append_nil]
  exact (List.Perm.swap _ _ _).trans ((List.perm_middle (a := (y, blkT h c2)) (l₁ := bksF h c1)).symm.cons _)
/-- the block comes apart -/
theorem Pn.part (hp : Pn w f a b B t c ch m go) (cx : Cu w f B L n t R) (hb : 1 ≤ b) (h1 : w < c.length) (h2 : (c.length : Int) ≤ 2 * w) {g : Int}
    (hg : g = frN (keysD B ++ keysD (putD n (blkT h (c.take (c.length / 2))) ch))) :
    Pn w f a b B (L ++ [nE n t] ++ R) (L ++ [nE n (c.take (c.length / 2)), nE g (c.drop (c.length / 2))] ++ R) (putD g (blkT h (c.drop (c.length / 2))) (putD n (blkT h (c.take (c.length / 2))) ch)) (m + 1) go := by
  obtain ⟨w1, w2⟩ := cut_wf h1 h2
  refine hp.up cx rfl (by rw [two_flat, List.take_append_drop]) (fun y hy => ?_) (Nat.le_trans (Nat.le_succ 1) (Nat.le_add_right _ _)) (Nat.add_le_add_left hb 1) ?_
  · rcases List.mem_cons.mp hy with rfl | hy
    · exact ⟨w1, fun x hx => hp.wf x (List.mem_of_mem_take hx)⟩
    · rw [List.mem_singleton.mp hy]; exact ⟨w2, fun x hx => hp.wf x (List.mem_of_mem_drop hx)⟩
  · rw [bksF_one]
    refine ((hp.st.own (b0 := blkT h t) (b := blkT h (c.take (c.length / 2))) cx.own.1 cx.own.2).fresh (b := blkT h (c.drop (c.length / 2))) hg).of_perm (List.Perm.refl _) ?_
    have := two_bks (x := n) (y := g) (c1 := c.take (c.length / 2)) (c2 := c.drop (c.length / 2))
    rw [List.take_append_drop] at this
    exact this
end
end

section
open PySem PyProof.Rows
set_option linter.unusedVariables false
section
variable {w : Int} {f : List V → List V} {a b : Nat} {B : Dct} {h : Nat} {L R : List (E (h + 1))} {n : Int} {t c : List (E h)} {ch : Dct} {m : Nat} {go : List Int}
/-- two neighbours, their rows joined into one list -/
structure Jn (w : Int) (B : Dct) {h : Nat} (L : List (E (h + 1))) (n : Int) (t : List (E h)) (R : List (E (h + 1))) (c : List (E h)) (L' : List (E (h + 1))) (x : Int) (xc : List (E h)) (y : Int) (yc : List (E h))
    (R' : List (E (h + 1))) (both : List (E h)) (ch : Dct) (m : Nat) (go : List Int) : Prop where
  eX : L ++ [nE n t] ++ R = L' ++ [nE x xc, nE y yc] ++ R'
  ep : prsF (h + 1) L' ++ prsF h both ++ prsF (h + 1) R' = prsF (h + 1) L ++ prsF h c ++ prsF (h + 1) R
  wf : ∀ z ∈ both, WfE w h z
  st : St B (bksF h xc ++ bksF h yc) (bksF h both) ch m go
variable {L' R' : List (E (h + 1))} {x y : Int} {xc yc both : List (E h)}
theorem Jn.apart (j : Jn w B L n t R c L' x xc y yc R' both ch m go) (cx : Cu w f B L n t R) :
    ((x ∉ keysD (bksF h xc ++ bksF h yc) ∧ x ∈ keysD B) ∧ y ∉ x :: keysD (bksF h xc ++ bksF h yc) ∧ y ∈ keysD B) := by
  have nd := cx.nd
  have inB := cx.inB
  rw [j.eX, bksF_app, bksF_app] at nd inB
  have hp : (((y, blkT h yc) : Int × V) :: (x, blkT h xc) :: (bksF h xc ++ bksF h yc)).Perm (bksF (h + 1) [nE x xc, nE y yc]) := by rw [← bksF_app]; exact two_bks
  rw [keys_app, keys_app] at nd
  have nd2 := ((hp.map (fun q : Int × V => q.1)).nodup_iff.mpr (List.nodup_append.mp (List.nodup_append.mp nd).1).2.1)
  obtain ⟨n1, n2⟩ := List.nodup_cons.mp nd2
  have mB : ∀ q ∈ ((y, blkT h yc) : Int × V) :: (x, blkT h xc) :: (bksF h xc ++ bksF h yc), q.1 ∈ keysD B := fun q hq => look_mem (inB q (List.mem_append.mpr (.inl (List.mem_append.mpr (.inr (hp.mem_iff.mp hq))))))
  exact ⟨⟨(List.nodup_cons.mp n2).1, mB (x, blkT h xc) (.tail _ (.head _))⟩, n1, mB (y, blkT h yc) (.head _)⟩
theorem Jn.perm {x y : Int} {xc yc : List (E h)} : (((y, blkT h yc) : Int × V) :: (x, blkT h xc) :: (bksF h xc ++ bksF h yc)).Perm (bksF (h + 1) [nE x xc, nE y yc]) := by rw [← bksF_app]; exact two_bks
/-- they become one block -/
theorem Pn.one (hp : Pn w f a b B t c ch m go) (cx : Cu w f B L n t R) (j : Jn w B L n t R c L' x xc y yc R' both ch m go) (ha : 1 ≤ a) (h1 : halfI w ≤ both.length) (h2 : (both.length : Int) ≤ w) :
    Pn w f a b B (L ++ [nE n t] ++ R) (L' ++ [nE x both] ++ R') (putD y .none (putD x (blkT h both) ch)) m (y :: go) := by
  obtain ⟨⟨x1, x2⟩, y1, y2⟩ := j.apart cx
  refine hp.up cx j.eX (by rw [prsF_one]; exact j.ep) (fun z hz => ?_) (Nat.add_le_add_left ha 1) (Nat.le_trans (Nat.le_succ 1) (Nat.le_add_right _ _)) ?_
  · rw [List.mem_singleton.mp hz]; exact ⟨⟨h1, h2⟩, j.wf⟩
  · rw [bksF_one (a := nE x both)]
    exact ((j.st.own (b0 := blkT h xc) (b := blkT h both) x1 x2).give (b0 := blkT h yc) y1 y2).of_perm Jn.perm (List.Perm.refl _)
/-- they stay two -/
theorem Pn.two (hp : Pn w f a b B t c ch m go) (cx : Cu w f B L n t R) (j : Jn w B L n t R c L' x xc y yc R' both ch m go) (h1 : w < both.length) (h2 : (both.length : Int) ≤ 2 * w) :
    Pn w f a b B (L ++ [nE n t] ++ R) (L' ++ [nE x (both.take (both.length / 2)), nE y (both.drop (both.length / 2))] ++ R') (putD y (blkT h (both.drop (both.length / 2))) (putD x (blkT h (both.take (both.length / 2))) ch)) m go := by
  obtain ⟨⟨x1, x2⟩, y1, y2⟩ := j.apart cx
  obtain ⟨w1, w2⟩ := cut_wf h1 h2
  refine hp.up cx j.eX (by rw [two_flat, List.take_append_drop]; exact j.ep) (fun z hz => ?_) (Nat.le_add_right _ _) (Nat.le_add_right _ _) ?_
  · rcases List.mem_cons.mp hz with rfl | hz
    · exact ⟨w1, fun x hx => j.wf x (List.mem_of_mem_take hx)⟩
    · rw [List.mem_singleton.mp hz]; exact ⟨w2, fun x hx => j.wf x (List.mem_of_mem_drop hx)⟩
  · refine ((j.st.own (b0 := blkT h xc) (b := blkT h (both.take (both.length / 2))) x1 x2).own (b0 := blkT h yc) (b := blkT h (both.drop (both.length / 2))) y1 y2).of_perm Jn.perm ?_
    have := two_bks (x := x) (y := y) (c1 := both.take (both.length / 2)) (c2 := both.drop (both.length / 2))
    rw [List.take_append_drop] at this
    exact this
theorem Cu.kid (cx : Cu w f B L n t R) {z : Int} {zc : List (E h)} (hz : nE z zc ∈ L ∨ nE z zc ∈ R) : (∀ q ∈ bksF h zc, lookD q.1 B = some q.2) ∧ (∀ j ∈ keysD (bksF h zc), j ∉ keysD (bksF h t)) := by
  have hs : ∀ {q}, q ∈ bksF h zc → q ∈ bksF (h + 1) L ∨ q ∈ bksF (h + 1) R := fun {q} hq => hz.imp (fun hz => List.mem_flatMap.mpr ⟨nE z zc, hz, .tail _ hq⟩) fun hz => List.mem_flatMap.mpr ⟨nE z zc, hz, .tail _ hq⟩
  have nd := cx.nd
  have inB := cx.inB
  rw [bksF_app, bksF_app] at inB nd
  rw [keys_app, keys_app] at nd
  obtain ⟨d1, d2, d3⟩ := List.nodup_append.mp nd
  obtain ⟨d4, d5, d6⟩ := List.nodup_append.mp d1
  refine ⟨fun q hq => inB q ((hs hq).elim (fun h => List.mem_append.mpr (.inl (List.mem_append.mpr (.inl h)))) fun h => List.mem_append.mpr (.inr h)), fun j hj ht => ?_⟩
  obtain ⟨q, hq, rfl⟩ := List.mem_map.mp hj
  have ht' : q.1 ∈ keysD (bksF (h + 1) [nE n t]) := by rw [bksF_one]; exact .tail _ ht
  rcases hs hq with hq | hq
  · exact d6 _ (mem_keysD hq) _ ht' rfl
  · exact d3 _ (List.mem_append.mpr (.inr ht')) _ (mem_keysD hq) rfl
theorem Pn.left {l : Int} {lc : List (E h)} (hp : Pn w f a b B t c ch m go) (cx : Cu w f B (L' ++ [nE l lc]) n t R) : Jn w B (L' ++ [nE l lc]) n t R c L' l lc n t R (lc ++ c) ch m go := by
  have hm : nE l lc ∈ L' ++ [nE l lc] := List.mem_append.mpr (.inr (.head _))
  obtain ⟨k1, k2⟩ := cx.kid (.inl hm)
  refine ⟨by rw [List.append_assoc L']; rfl, ?_, fun z hz => ?_, ?_⟩
  · rw [prsF_app, prsF_app, prsF_one, ← List.append_assoc]; rfl
  · rcases List.mem_append.mp hz with hz | hz
    · exact (cx.wf _ (List.mem_append.mpr (.inl (List.mem_append.mpr (.inl hm))))).2 z hz
    · exact hp.wf z hz
  · rw [bksF_app]; exact hp.st.lift k1 k2
theorem Pn.right {r : Int} {rc : List (E h)} (hp : Pn w f a b B t c ch m go) (cx : Cu w f B L n t (nE r rc :: R')) : Jn w B L n t (nE r rc :: R') c L n t r rc R' (c ++ rc) ch m go := by
  have hm : nE r rc ∈ nE r rc :: R' := .head _
  obtain ⟨k1, k2⟩ := cx.kid (.inr hm)
  refine ⟨by rw [List.append_assoc, List.append_assoc]; rfl, ?_, fun z hz => ?_, ?_⟩
  · rw [prsF_app, List.append_assoc, List.append_assoc, List.append_assoc]; rfl
  · rcases List.mem_append.mp hz with hz | hz
    · exact hp.wf z hz
    · exact (cx.wf _ (List.mem_append.mpr (.inr hm))).2 z hz
  · rw [bksF_app]; exact (hp.st.lift k1 k2).of_perm List.perm_append_comm List.perm_append_comm
end
end

section
open PySem PyProof.Rows
set_option linter.unusedVariables false
/-! the tree behind a change -/
inductive Fin8 (w : Int) (f : List V → List V) (B : Dct) {H : Nat} (top : T H) (ch : Dct) : Prop
  | mk {H' : Nat} {top' : T H'} {m : Nat} {go : List Int} : RootT w H' top' → prsF H' top'.2 = f (prsF H top.2) → St B (bksE (H + 1) top) (bksE (H' + 1) top') ch m go → (go = [] ∨ m = 0) → m ≤ H + 2 → Fin8 w f B top ch
section
variable {w : Int} {f : List V → List V} {B : Dct} {H : Nat} {top : T H} {c : List (E H)} {ch : Dct} {m : Nat} {go : List Int}
theorem top_own (hR : RootT w H top) (nd : (keysD (bksE (H + 1) top)).Nodup) (hB : ∀ q ∈ bksE (H + 1) top, lookD q.1 B = some q.2) : (0 : Int) ∉ keysD (bksF H top.2) ∧ (0 : Int) ∈ keysD B := by
  have h1 := (List.nodup_cons.mp nd).1
  have h2 := look_mem (hB (top.1, blkT H top.2) (.head _))
  rw [hR.num] at h2
  exact ⟨fun h => h1 (hR.num.symm ▸ h), h2⟩
theorem top_keys (hR : RootT w H top) : bksE (H + 1) top = (0, blkT H top.2) :: bksF H top.2 := by rw [← hR.num]; rfl
/-- a put: the topmost block stays one -/
theorem Pn.top1 (hp : Pn w f 0 1 B top.2 c ch m []) (hR : RootT w H top) (nd : (keysD (bksE (H + 1) top)).Nodup) (hB : ∀ q ∈ bksE (H + 1) top, lookD q.1 B = some q.2) (hm : m ≤ H) (hc : (c.length : Int) ≤ w) :
    Fin8 w f B top (putD 0 (blkT H c) ch) := by
  obtain ⟨o1, o2⟩ := top_own hR nd hB
  refine .mk (top' := (0, c)) ⟨rfl, fun h => Nat.le_trans (hR.two h) hp.lo, hc, hp.wf⟩ hp.prs ?_ (.inl rfl) (Nat.le_trans hm (Nat.le_add_right _ _))
  rw [top_keys hR]; exact hp.st.own o1 o2
/-- a put: the topmost block comes apart -/
theorem Pn.top2 (hp : Pn w f 0 1 B top.2 c ch m []) (hR : RootT w H top) (hw : 3 ≤ w) (nd : (keysD (bksE (H + 1) top)).Nodup) (hB : ∀ q ∈ bksE (H + 1) top, lookD q.1 B = some q.2) (hm : m ≤ H) (hc : w < c.length)
    {b0 : V} {g1 g2 : Int} {ch1 ch2 ch3 : Dct} (e1 : ch1 = putD 0 b0 ch) (eg1 : g1 = frN (keysD B ++ keysD ch1)) (e2 : ch2 = putD g1 (blkT H (c.take (c.length / 2))) ch1) (eg2 : g2 = frN (keysD B ++ keysD ch2))
    (e3 : ch3 = putD g2 (blkT H (c.drop (c.length / 2))) ch2) : Fin8 w f B top (putD 0 (blkT (H + 1) [nE g1 (c.take (c.length / 2)), nE g2 (c.drop (c.length / 2))]) ch3) := by
  obtain ⟨o1, o2⟩ := top_own hR nd hB
  have h2 : (c.length : Int) ≤ 2 * w := by have := hp.hi; have := hR.most; (first | lia | omega)
  obtain ⟨w1, w2⟩ := cut_wf hc h2
  refine .mk (m := m + 1 + 1) (go := []) (top' := (0, [nE g1 (c.take (c.length / 2)), nE g2 (c.drop (c.length / 2))])) ⟨rfl, fun _ => Nat.le_refl _, Int.le_trans (show (2 : Int) ≤ 3 by decide) hw, fun y hy => ?_⟩ ?_ ?_ (.inl rfl) (Nat.add_le_add_right hm 2)
  · rcases List.mem_cons.mp hy with rfl | hy
    · exact ⟨w1, fun x hx => hp.wf x (List.mem_of_mem_take hx)⟩
    · rw [List.mem_singleton.mp hy]; exact ⟨w2, fun x hx => hp.wf x (List.mem_of_mem_drop hx)⟩
  · rw [two_flat, List.take_append_drop]; exact hp.prs
  · have s := hp.st.own (b0 := blkT H top.2) (b := b0) o1 o2
    rw [← e1] at s
    have s2 := s.fresh (b := blkT H (c.take (c.length / 2))) eg1
    rw [← e2] at s2
    have s3 := s2.fresh (b := blkT H (c.drop (c.length / 2))) eg2
    rw [← e3, ← top_keys hR] at s3
    have hq : (((g2, blkT H (c.drop (c.length / 2))) : Int × V) :: (g1, blkT H (c.take (c.length / 2))) :: (0, b0) :: bksF H c).Perm ((0, b0) :: bksF (H + 1) [nE g1 (c.take (c.length / 2)), nE g2 (c.drop (c.length / 2))]) := by
      have := two_bks (x := g1) (y := g2) (c1 := c.take (c.length / 2)) (c2 := c.drop (c.length / 2))
      rw [List.take_append_drop] at this
      exact (((List.Perm.swap _ _ _).cons _).trans (List.Perm.swap _ _ _)).trans (this.cons _)
    exact (s3.of_perm (List.Perm.refl _) hq).over nd (by rw [top_keys hR]; exact .head _)
/-- a drop: the topmost block stays -/
theorem Pn.top3 (hp : Pn w f 1 0 B top.2 c ch 0 go) (hR : RootT w H top) (nd : (keysD (bksE (H + 1) top)).Nodup) (hB : ∀ q ∈ bksE (H + 1) top, lookD q.1 B = some q.2) (hc : H ≠ 0 → c.length ≠ 1) :
    Fin8 w f B top (putD 0 (blkT H c) ch) := by
  obtain ⟨o1, o2⟩ := top_own hR nd hB
  refine .mk (top' := (0, c)) (m := 0) (go := go) ⟨rfl, fun h => ?_, Int.le_trans (Int.ofNat_le.mpr hp.hi) hR.most, hp.wf⟩ hp.prs ?_ (.inr rfl) (Nat.zero_le _)
  · have := hc h; have := hR.two h; have := hp.lo
    show 2 ≤ c.length
    (first | lia | omega)
  rw [top_keys hR]; exact hp.st.own o1 o2
end
/-- a drop: the topmost block falls, its only child takes its place -/
theorem Pn.top4 {w : Int} {f : List V → List V} {B : Dct} {H : Nat} {top : T (H + 1)} {cc : List (E H)} {n : Int} {ch : Dct} {go : List Int} {b0 : V} (hp : Pn w f 1 0 B top.2 [nE n cc] ch 0 go) (hw : 3 ≤ w) (hR : RootT w (H + 1) top)
    (nd : (keysD (bksE (H + 2) top)).Nodup) (hB : ∀ q ∈ bksE (H + 2) top, lookD q.1 B = some q.2) (hn : n ∈ keysD ch) :
    lookD n (putD 0 b0 ch) = some (blkT H cc) ∧ Fin8 w f B top (putD n .none (putD 0 (blkT H cc) (putD 0 b0 ch))) := by
  obtain ⟨o1, o2⟩ := top_own hR nd hB
  have hc := hp.wf _ (.head _)
  have s := hp.st.own (b0 := blkT (H + 1) top.2) (b := b0) o1 o2
  rw [← top_keys hR, bksF_one] at s
  have n0 : n ≠ 0 := by
    have := (List.nodup_cons.mp (List.nodup_append.mp (s.nodup nd)).1).1
    exact fun e => this (e ▸ .head _)
  refine ⟨?_, .mk (m := 0) (go := n :: go) (top' := ((0, cc) : T H)) ⟨rfl, fun _ => wf_two hw hc, hc.1.2, hc.2⟩ ?_ ?_ (.inr rfl) (Nat.zero_le _)⟩
  · rw [lookD_put, if_neg n0]
    rcases hp.st.has (n, blkT H cc) (by rw [bksF_one]; exact .head _) with e | ⟨e, _⟩
    · exact e
    · exact absurd hn (lookD_none.mp e)
  · have := hp.prs
    rw [prsF_one] at this; exact this
  · exact ((s.over nd (by rw [top_keys hR]; exact .head _)).of_perm (List.Perm.refl _) (List.Perm.swap _ _ _)).quit nd
end

section
open PySem PyProof.Rows
set_option linter.unusedVariables false
/-! at the leaf -/
theorem prs0 : ∀ (c : List (E 0)), prsF 0 c = c
  | [] => rfl
  | p :: c => congrArg (p :: ·) (prs0 c)
theorem row0 : ∀ (c : List (E 0)), rowE 0 c = c
  | [] => rfl
  | p :: c => congrArg (p :: ·) (row0 c)
theorem bks0 : ∀ (c : List (E 0)), bksF 0 c = []
  | [] => rfl
  | _ :: c => bks0 c
theorem Pn.leaf {w : Int} {f : List V → List V} {a b : Nat} {B : Dct} {t c : List (E 0)} (e : (c : List V) = f t) (hw : ∀ x ∈ c, WfE w 0 x) (h1 : t.length ≤ c.length + a) (h2 : c.length ≤ t.length + b) : Pn w f a b B (h := 0) t c [] 0 [] :=
  ⟨(prs0 c).trans (e.trans (congrArg f (prs0 t).symm)), hw, h1, h2, by rw [bks0 t, bks0 c]; exact St.nil⟩
theorem ins_wf {w k : Int} {s : Str} {t : List V} (h : ∀ x ∈ t, WfE w 0 x) : ∀ x ∈ insRow t k (.str s), WfE w 0 x := by
  intro x hx
  rcases List.mem_append.mp hx with hx | hx
  · rcases List.mem_append.mp hx with hx | hx
    · exact h x (List.mem_filter.mp hx).1
    · exact ⟨k, s, List.mem_singleton.mp hx⟩
  · exact h x (List.mem_filter.mp hx).1
theorem del_wf {w k : Int} {t : List V} (h : ∀ x ∈ t, WfE w 0 x) : ∀ x ∈ delRow t k, WfE w 0 x := fun x hx => h x (List.mem_filter.mp hx).1
/-! on the way up -/
section
variable {w k : Int} {f : List V → List V} {a b : Nat} {B : Dct} {H h : Nat} {top : T H} {ns : List Int} {ps : List Nat}
theorem Way.nd (nd : (keysD (bksE (H + 1) top)).Nodup) {t : T h} (W : Way k top ns ps h t) : (keysD (bksE (h + 1) t)).Nodup := by
  induction W with
  | top => exact nd
  | @down ns p h t c W e ih =>
    have h1 := (List.nodup_cons.mp ih).2
    obtain ⟨a, b, hab⟩ := List.append_of_mem (List.mem_iff_getElem?.mpr ⟨_, e⟩)
    have h2 : (keysD (bksF (h + 1) t.2)).Nodup := h1
    rw [hab, bksF_app, keys_app] at h2
    have h3 := (List.nodup_append.mp h2).2.1
    rw [show bksF (h + 1) (c :: b) = bksE (h + 1) c ++ bksF (h + 1) b from rfl, keys_app] at h3
    exact (List.nodup_append.mp h3).1
theorem Way.cx {t' : T (h + 1)} {n : Int} {t : List (E h)} (hw : 3 ≤ w) (hR : RootT w H top) (hr : Ris (prsF H top.2)) (nd : (keysD (bksE (H + 1) top)).Nodup) (hB : ∀ q ∈ bksE (H + 1) top, lookD q.1 B = some q.2) (Md : Mid k f)
    (W : Way k top ns ps (h + 1) t') (e : t'.2[atF (h + 1) t'.2 k]? = some (nE n t)) :
    t'.2 = t'.2.take (atF (h + 1) t'.2 k) ++ [nE n t] ++ t'.2.drop (atF (h + 1) t'.2 k + 1) ∧ Cu w f B (t'.2.take (atF (h + 1) t'.2 k)) n t (t'.2.drop (atF (h + 1) t'.2 k + 1)) := by
  have hs := split_at e
  obtain ⟨b1, b2⟩ := way_between hw (W.wf hw hR).1 (W.ris hr) e
  refine ⟨hs, ?_, ?_, ?_, ?_⟩
  · rw [prsF_app, prsF_app, prsF_one]; exact Md _ _ _ b1 b2
  · rw [← hs]; exact (W.wf hw hR).1
  · rw [← hs]; exact fun q hq => hB q (W.blocks q (.tail _ hq))
  · rw [← hs]; exact (List.nodup_cons.mp (W.nd nd)).2
/-- the neighbour with which a short row is joined -/
inductive Nb (w : Int) (B : Dct) {h : Nat} (t' : List (E (h + 1))) (i : Nat) (n : Int) (t c : List (E h)) (ch : Dct) (m : Nat) (go : List Int) : Prop
  | left {L' : List (E (h + 1))} {l : Int} {lc : List (E h)} : t' = L' ++ [nE l lc, nE n t] ++ t'.drop (i + 1) → L'.length + 1 = i → (halfI w ≤ (lc ++ c).length ∧ ((lc ++ c).length : Int) ≤ 2 * w) →
    Jn w B (t'.take i) n t (t'.drop (i + 1)) c L' l lc n t (t'.drop (i + 1)) (lc ++ c) ch m go → Nb w B t' i n t c ch m go
  | right {r : Int} {rc : List (E h)} {R' : List (E (h + 1))} : t' = [nE n t, nE r rc] ++ R' → i = 0 → (halfI w ≤ (c ++ rc).length ∧ ((c ++ rc).length : Int) ≤ 2 * w) →
    Jn w B (t'.take i) n t (t'.drop (i + 1)) c [] n t r rc R' (c ++ rc) ch m go → Nb w B t' i n t c ch m go
theorem Pn.nb {t' : List (E (h + 1))} {n : Int} {t c : List (E h)} {ch : Dct} {m : Nat} {go : List Int} {i : Nat} (hw : 3 ≤ w) (hp : Pn w f 1 b B t c ch m go) (h2 : 2 ≤ t'.length) (e : t'[i]? = some (nE n t))
    (cx : Cu w f B (t'.take i) n t (t'.drop (i + 1))) (hc : (c.length : Int) < halfI w) : Nb w B t' i n t c ch m go := by
  have hs := split_at e
  have ht : WfE w (h + 1) (nE n t) := cx.wf _ (List.mem_append.mpr (.inl (List.mem_append.mpr (.inr (.head _)))))
  have ht1 : halfI w ≤ t.length := ht.1.1
  have hlo := hp.lo
  have hh := two_half hw
  have hh2 : halfI w ≤ w := by unfold halfI; (first | lia | omega)
  have key : ∀ {z : List (E h)}, halfI w ≤ z.length → (z.length : Int) ≤ w → halfI w ≤ (z.length + c.length : Nat) ∧ ((z.length + c.length : Nat) : Int) ≤ 2 * w := fun {z} z1 z2 => by (first | lia | omega)
  cases i with
  | zero =>
    cases hd : t'.drop 1 with
    | nil =>
      have := congrArg List.length hd
      rw [List.length_drop] at this
      exact absurd this (by show ¬ t'.length - 1 = 0; (first | lia | omega))
    | cons x R' =>
      obtain ⟨r, rc⟩ := (x : T h)
      have cx' := cx
      rw [hd] at cx'
      have hx : WfE w (h + 1) (nE r rc) := cx'.wf _ (List.mem_append.mpr (.inr (.head _)))
      obtain ⟨k1, k2⟩ := key hx.1.1 hx.1.2
      refine .right (r := r) (rc := rc) (R' := R') ?_ rfl ?_ ?_
      · rw [hs, hd]; rfl
      · rw [List.length_append, Nat.add_comm]; exact ⟨k1, k2⟩
      · show Jn w B (t'.take 0) n t (t'.drop 1) c [] n t r rc R' (c ++ rc) ch m go
        rw [hd]; exact hp.right cx'
  | succ i =>
    have hi : i < t'.length := Nat.lt_of_succ_lt (List.getElem?_eq_some_iff.mp e).1
    have e2 : t'[i]? = some t'[i] := List.getElem?_eq_getElem hi
    generalize t'[i] = x at e2
    have hk : t'.take (i + 1) = t'.take i ++ [x] := by rw [List.take_add_one, e2]; rfl
    obtain ⟨l, lc⟩ := (x : T h)
    have cx' := cx
    rw [hk] at cx'
    have hx : WfE w (h + 1) (nE l lc) := cx'.wf _ (List.mem_append.mpr (.inl (List.mem_append.mpr (.inl (List.mem_append.mpr (.inr (.head _)))))))
    obtain ⟨k1, k2⟩ := key hx.1.1 hx.1.2
    refine .left (L' := t'.take i) (l := l) (lc := lc) ?_ ?_ ?_ ?_
    · rw [hk, List.append_assoc (t'.take i)] at hs; exact hs
    · rw [List.length_take, Nat.min_eq_left (Nat.le_of_lt hi)]
    · rw [List.length_append]; exact ⟨k1, k2⟩
    · rw [hk]; exact hp.left cx'
end
end

section
open PySem PyProof.Rows
set_option linter.unusedVariables false
/-! the pairs of one key -/
noncomputable def onlyR (r : List V) (k : Int) : List V := r.filter fun p => decide (keyOf p = k)
theorem only_mid {k : Int} {a b c : List V} (ha : ∀ x ∈ a, keyOf x < k) (hc : ∀ x ∈ c, k < keyOf x) : onlyR (a ++ b ++ c) k = onlyR b k := by
  unfold onlyR
  rw [List.filter_append, List.filter_append, filter_no (l := a) fun x hx => decide_eq_false fun q => absurd (q ▸ ha x hx) (Int.lt_irrefl _),
    filter_no (l := c) fun x hx => decide_eq_false fun q => absurd (q ▸ hc x hx) (Int.lt_irrefl _), List.append_nil]; rfl
theorem only_one {k : Int} : ∀ {r : List V}, Ris r → onlyR r k = [] ∨ ∃ p, onlyR r k = [p]
  | [], _ => .inl rfl
  | p :: r, hr => by
    obtain ⟨h1, h2⟩ := List.pairwise_cons.mp hr
    unfold onlyR
    by_cases q : keyOf p = k
    · refine .inr ⟨p, ?_⟩
      rw [List.filter_cons_of_pos (by simp; exact q), filter_no fun x hx => decide_eq_false fun e => absurd (h1 _ (List.mem_map_of_mem hx)) (by rw [q, e]; exact Int.lt_irrefl _)]
    · rw [List.filter_cons_of_neg (by simp; exact q)]; exact only_one h2
theorem Way.only {w k : Int} {H h : Nat} {top : T H} {ns : List Int} {ps : List Nat} {t : T h} (hw : 3 ≤ w) (hR : RootT w H top) (hr : Ris (prsF H top.2)) (W : Way k top ns ps h t) : onlyR (prsF H top.2) k = onlyR (prsF h t.2) k := by
  induction W with
  | top => rfl
  | @down ns p h t c W e ih =>
    obtain ⟨b1, b2⟩ := way_between hw (W.wf hw hR).1 (W.ris hr) e
    rw [ih, prs_split e, only_mid b1 b2]; rfl
/-- a rising row without a key: what is below it, and what is above -/
theorem del_held {k : Int} {r : List V} (hr : Ris r) : delRow r k = r.filter (fun p => decide (keyOf p < k)) ++ r.filter (fun p => decide (k < keyOf p)) := by
  unfold delRow
  induction r with
  | nil => rfl
  | cons p r ih =>
    obtain ⟨h1, h2⟩ := List.pairwise_cons.mp hr
    have ih := ih h2
    rcases Int.lt_trichotomy (keyOf p) k with q | q | q
    · rw [List.filter_cons_of_pos (by simp; (first | lia | omega)), List.filter_cons_of_pos (by simp; exact q), List.filter_cons_of_neg (by simp; exact Int.le_of_lt q), ih]; rfl
    · rw [List.filter_cons_of_neg (by simp; exact q), List.filter_cons_of_neg (by simp; exact Int.le_of_eq q.symm), List.filter_cons_of_neg (by simp; exact Int.le_of_eq q), ih]
    · have e1 : r.filter (fun p => decide (keyOf p < k)) = [] := filter_no fun x hx => decide_eq_false (by have := h1 _ (List.mem_map_of_mem hx); (first | lia | omega))
      rw [e1] at ih
      rw [List.filter_cons_of_pos (by simp; (first | lia | omega)), List.filter_cons_of_neg (by simp; exact Int.le_of_lt q), List.filter_cons_of_pos (by simp; exact q), ih, e1]; rfl
/-- rows stay rising -/
theorem ris_del {k : Int} {r : List V} (hr : Ris r) : Ris (delRow r k) := List.Pairwise.sublist (List.filter_sublist.map _) hr
theorem ris_ins {k : Int} {v : V} {r : List V} (hr : Ris r) : Ris (insRow r k v) := by
  unfold Ris insRow
  rw [List.map_append, List.map_append]
  refine List.pairwise_append.mpr ⟨List.pairwise_append.mpr ⟨List.Pairwise.sublist (List.filter_sublist.map _) hr, List.pairwise_singleton _ _, fun x hx y hy => ?_⟩, List.Pairwise.sublist (List.filter_sublist.map _) hr, fun x hx y hy => ?_⟩
  · obtain ⟨p, hp, rfl⟩ := List.mem_map.mp hx
    rw [List.mem_singleton.mp hy]; exact of_decide_eq_true (List.mem_filter.mp hp).2
  · obtain ⟨q, hq, rfl⟩ := List.mem_map.mp hy
    have hq := of_decide_eq_true (List.mem_filter.mp hq).2
    rcases List.mem_append.mp hx with hx | hx
    · obtain ⟨p, hp, rfl⟩ := List.mem_map.mp hx
      exact Int.lt_trans (of_decide_eq_true (List.mem_filter.mp hp).2) hq
    · rw [List.mem_singleton.mp hx]; exact hq
/-- a tree of few pairs is not high -/
theorem prs_len {w : Int} (hw : 3 ≤ w) : ∀ {h : Nat} {x : E h}, WfE w h x → 2 ^ h ≤ (prsE h x).length
  | 0, _, _ => Nat.le_refl _
  | h + 1, (n, cs), hf => by
    cases cs with
    | nil => exact absurd (show 2 ≤ 0 from wf_two hw hf) (by decide)
    | cons c cs =>
      cases cs with
      | nil => exact absurd (show 2 ≤ 1 from wf_two hw hf) (by decide)
      | cons d cs =>
        have h1 := prs_len hw (hf.2 c (.head _))
        have h2 := prs_len hw (hf.2 d (.tail _ (.head _)))
        show 2 ^ (h + 1) ≤ (prsE h c ++ (prsE h d ++ _)).length
        rw [List.length_append, List.length_append, Nat.pow_succ]
        (first | lia | omega)
end

section
open PySem PyProof.Rows
set_option linter.unusedVariables false
/-! values of which == says whether they are the same -/
inductive Pv : Nat → V → Prop
  | none {n : Nat} : Pv n .none
  | int {n : Nat} (i : Int) : Pv n (.int i)
  | str {n : Nat} (s : Str) : Pv n (.str s)
  | tup {n : Nat} {xs : List V} (h : ∀ x ∈ xs, Pv n x) : Pv (n + 1) (.tup xs)
theorem toD_none {σ : View} : ∀ m, V.toD σ m .none = some .none
  | 0 => rfl
  | _ + 1 => rfl
theorem toD_int {σ : View} {i : Int} : ∀ m, V.toD σ m (.int i) = some (.int i)
  | 0 => rfl
  | _ + 1 => rfl
theorem toD_str {σ : View} {s : Str} : ∀ m, V.toD σ m (.str s) = some (.str s)
  | 0 => rfl
  | _ + 1 => rfl
theorem toD_tup {σ : View} {xs : List V} {a : PyData} : ∀ {m}, V.toD σ m (.tup xs) = some a → ∃ k as, xs.mapM (V.toD σ k) = some as ∧ a = .tuple as
  | 0, h => nn h
  | m + 1, h => by obtain ⟨as, h1, h2⟩ := Option.map_eq_some_iff.mp h; exact ⟨m, as, h1, h2.symm⟩
/-- a's data is equal to that of v alone -/
noncomputable def Sg (σ : View) (v : V) (a : PyData) : Prop := ∀ n' v' m' a', Pv n' v' → V.toD σ m' v' = some a' → (PyData.eqv a a' = true ↔ v = v')
theorem sg_list {σ : View} {m : Nat} : ∀ {xs : List V}, (∀ x ∈ xs, ∃ a, V.toD σ m x = some a ∧ Sg σ x a) → ∃ as, xs.mapM (V.toD σ m) = some as ∧ ∀ ys n' m' bs, (∀ y ∈ ys, Pv n' y) → ys.mapM (V.toD σ m') = some bs → (PyData.eqvAll as bs = true ↔ xs = ys)
  | [], _ => ⟨[], rfl, fun ys n' m' bs hy h => by
    cases ys with
    | nil => cases h; exact ⟨fun _ => rfl, fun _ => rfl⟩
    | cons y ys =>
      rw [List.mapM_cons] at h
      obtain ⟨b, _, h⟩ := Option.bind_eq_some_iff.mp h
      obtain ⟨bs', _, h⟩ := Option.bind_eq_some_iff.mp h
      cases h
      exact ⟨fun h => ff h, fun h => by cases h⟩⟩
  | x :: xs, hx => by
    obtain ⟨a, h1, h2⟩ := hx x (.head _)
    obtain ⟨as, h3, h4⟩ := sg_list fun y hy => hx y (.tail _ hy)
    refine ⟨a :: as, by rw [List.mapM_cons, h1, h3]; rfl, fun ys n' m' bs hy h => ?_⟩
    cases ys with
    | nil => cases h; exact ⟨fun h => ff h, fun h => by cases h⟩
    | cons y ys =>
      rw [List.mapM_cons] at h
      obtain ⟨b, h5, h⟩ := Option.bind_eq_some_iff.mp h
      obtain ⟨bs', h6, h⟩ := Option.bind_eq_some_iff.mp h
      cases h
      have e1 := h2 n' y m' b (hy y (.head _)) h5
      have e2 := h4 ys n' m' bs' (fun z hz => hy z (.tail _ hz)) h6
      refine Iff.trans Bool.and_eq_true_iff ⟨fun h => ?_, fun h => ?_⟩
      · rw [e1.mp h.1, e2.mp h.2]
      · cases h; exact ⟨e1.mpr rfl, e2.mpr rfl⟩
theorem sg_of {σ : View} {n : Nat} {v : V} (h : Pv n v) : ∀ m, n ≤ m → ∃ a, V.toD σ m v = some a ∧ Sg σ v a := by
  induction h with
  | none =>
    refine fun m _ => ⟨.none, toD_none m, fun n' v' m' a' h e => ?_⟩
    cases h with
    | none => rw [toD_none] at e; cases e; exact ⟨fun _ => rfl, fun _ => rfl⟩
    | int => rw [toD_int] at e; cases e; exact ⟨fun h => ff h, fun h => by cases h⟩
    | str => rw [toD_str] at e; cases e; exact ⟨fun h => ff h, fun h => by cases h⟩
    | tup => obtain ⟨_, _, _, rfl⟩ := toD_tup e; exact ⟨fun h => ff h, fun h => by cases h⟩
  | int i =>
    refine fun m _ => ⟨.int i, toD_int m, fun n' v' m' a' h e => ?_⟩
    cases h with
    | none => rw [toD_none] at e; cases e; exact ⟨fun h => ff h, fun h => by cases h⟩
    | int j => rw [toD_int] at e; cases e; exact ⟨fun h => congrArg V.int (of_decide_eq_true h), fun h => by cases h; exact decide_eq_true rfl⟩
    | str => rw [toD_str] at e; cases e; exact ⟨fun h => ff h, fun h => by cases h⟩
    | tup => obtain ⟨_, _, _, rfl⟩ := toD_tup e; exact ⟨fun h => ff h, fun h => by cases h⟩
  | str s =>
    refine fun m _ => ⟨.str s, toD_str m, fun n' v' m' a' h e => ?_⟩
    cases h with
    | none => rw [toD_none] at e; cases e; exact ⟨fun h => ff h, fun h => by cases h⟩
    | int j => rw [toD_int] at e; cases e; exact ⟨fun h => ff h, fun h => by cases h⟩
    | str => rw [toD_str] at e; cases e; exact ⟨fun h => congrArg V.str (eq_of_beq h), fun h => by cases h; exact beq_self_eq_true _⟩
    | tup => obtain ⟨_, _, _, rfl⟩ := toD_tup e; exact ⟨fun h => ff h, fun h => by cases h⟩
  | @tup n xs hx ih =>
    intro m hm
    cases m with
    | zero => exact absurd hm (Nat.not_succ_le_zero _)
    | succ m =>
      obtain ⟨as, h1, h2⟩ := sg_list (m := m) fun x hx => ih x hx m (Nat.le_of_succ_le_succ hm)
      refine ⟨.tuple as, Option.map_eq_some_iff.mpr ⟨as, h1, rfl⟩, fun n' v' m' a' h e => ?_⟩
      cases h with
      | none => rw [toD_none] at e; cases e; exact ⟨fun h => ff h, fun h => by cases h⟩
      | int j => rw [toD_int] at e; cases e; exact ⟨fun h => ff h, fun h => by cases h⟩
      | str => rw [toD_str] at e; cases e; exact ⟨fun h => ff h, fun h => by cases h⟩
      | tup hy =>
        obtain ⟨k, bs, e1, rfl⟩ := toD_tup e
        exact (h2 _ _ k bs hy e1).trans ⟨fun h => congrArg V.tup h, fun h => by cases h; rfl⟩
theorem eqV_pv {σ : View} {x y : V} (hx : Pv 3 x) (hy : Pv 3 y) : ∃ b, eqV σ x y = some b ∧ (b = true ↔ x = y) := by
  obtain ⟨a, h1, h2⟩ := sg_of (σ := σ) hx 20 (by decide)
  obtain ⟨b, h3, _⟩ := sg_of (σ := σ) hy 20 (by decide)
  refine ⟨PyData.eqv a b, ?_, h2 _ _ _ _ hy h3⟩
  unfold eqV
  rw [h1, h3]; rfl
theorem pv_ent {w : Int} : ∀ {h : Nat} {x : E h}, WfE w h x → Pv 1 (entE h x)
  | 0, _, ⟨k, s, e⟩ => by
    cases e
    refine .tup fun x hx => ?_
    rcases List.mem_cons.mp hx with rfl | hx
    · exact .int _
    · rw [List.mem_singleton.mp hx]; exact .str _
  | _ + 1, _, _ => .tup fun x hx => by
    rcases List.mem_cons.mp hx with rfl | hx
    · exact .int _
    · rw [List.mem_singleton.mp hx]; exact .int _
theorem pv_blk {w : Int} {h : Nat} {c : List (E h)} (hf : ∀ x ∈ c, WfE w h x) : Pv 3 (blkT h c) := .tup fun x hx => by
  rcases List.mem_cons.mp hx with rfl | hx
  · exact .str _
  · rw [List.mem_singleton.mp hx]
    refine .tup fun y hy => ?_
    obtain ⟨z, hz, rfl⟩ := List.mem_map.mp hy
    exact pv_ent (hf z hz)
end

section
open PySem PySem.W PySem.Calls PyProof.Rows
set_option maxRecDepth 100000
set_option linter.unusedSimpArgs false
set_option linter.unusedVariables false
/-! half, place, parts, entry_of, free_number, unlike -/
inductive halfS (xs : List V) (Q : Post) (σ : View)  : Prop
  | mk (w) : xs = [.int w] → Q (.int (halfI w)) σ → halfS xs Q σ
theorem half_ok (Φ : Spec) (hM : SpecMono Φ) (Gc : Nat → V) {xs : List V} {Q : Post} {σ : View} (h : halfS xs Q σ) : xs.length = 1 ∧ swps Φ Gc m_half (fun σ' _ => Q .none σ') Q σ (argLs xs) := by
  obtain ⟨w, rfl, h⟩ := h
  refine ⟨rfl, c_ret hM ?_⟩
  skip
  exact h
/-- a row's entries: a key, and something -/
noncomputable def Ents (row : List V) : Prop := ∀ p ∈ row, ∃ y, p = .tup [.int (keyOf p), y]
theorem ents_row {w : Int} {h : Nat} {c : List (E h)} (hf : ∀ x ∈ c, WfE w h x) : Ents (rowE h c) := fun p hp => by
  obtain ⟨x, hx, rfl⟩ := List.mem_map.mp hp
  rw [key_ent]; exact ent_form (hf x hx)
theorem idx_get {xs : List V} {k : Nat} {p : V} (h : xs[k]? = some p) : ((idxOf (k : Int) xs.length).bind fun j => xs[j]?) = some p := by
  rw [idxOf_nat (List.getElem?_eq_some_iff.mp h).1]; exact h
inductive placeS (xs : List V) (Q : Post) (σ : View)  : Prop
  | mk (row k) : xs = [.tup row, .int k] → Ents row → row.length < 1000 → Q (.int (plN (row.map keyOf) k row.length)) σ → placeS xs Q σ
inductive PlI (row : List V) (k : Int) (σ : View) (j : Nat) (σ' : View) (ls' : Ls) : Prop
  | mk : σ' = σ → ls' 0 = some (.tup row) → ls' 1 = some (.int k) → ls' 2 = some (.int (plN (row.map keyOf) k j)) → PlI row k σ j σ' ls'
theorem place_ok (Φ : Spec) (hM : SpecMono Φ) (Gc : Nat → V) {xs : List V} {Q : Post} {σ : View} (h : placeS xs Q σ) : xs.length = 2 ∧ swps Φ Gc m_place (fun σ' _ => Q .none σ') Q σ (argLs xs) := by
  obtain ⟨row, k, rfl, he, hl, h⟩ := h
  refine ⟨rfl, c_let hM (v := .int 0) r2 ?_⟩
  refine c_for_r hM (n := row.length) (PlI row k σ) r2 (Int.natCast_nonneg _) (by (first | lia | omega)) ⟨rfl, rfl, rfl, rfl⟩ ?_ ?_
  · rintro j hj σ' ls' ⟨rfl, l0, l1, l2⟩
    have hj : j < row.length := hj
    have e : row[j]? = some row[j] := List.getElem?_eq_getElem hj
    generalize row[j] = p at e
    obtain ⟨y, ey⟩ := he p (List.mem_iff_getElem?.mpr ⟨j, e⟩)
    have ek : (row.map keyOf).getD j 0 = keyOf p := getD_map e
    refine c_if_assign hM (r := .nil) (fun d => d = .int (plN (row.map keyOf) k (j + 1))) ?_ ?_
    · refine opt_of l0 ?_
      skip
      refine opt_of (idx_get e) ?_
      rw [ey]
      sizeOf_list_dec
      refine opt_of l1 ?_
      sizeOf_list_dec
      rw [← ek]
      by_cases q : (row.map keyOf).getD j 0 ≤ k
      · rw [decide_eq_true q]; refine ⟨rfl, rfl, ?_⟩; show V.int ((j : Nat) : Int) = V.int ((if (row.map keyOf).getD j 0 ≤ k then j else plN (row.map keyOf) k j : Nat) : Int); rw [if_pos q]
      · rw [decide_eq_false q]; refine ⟨rfl, opt_of l2 ?_⟩; show _ = V.int ((if (row.map keyOf).getD j 0 ≤ k then j else plN (row.map keyOf) k j : Nat) : Int); rw [if_neg q]
    · rintro _ rfl; exact ⟨rfl, l0, l1, rfl⟩
  · rintro σ' ls' ⟨rfl, l0, l1, l2⟩
    exact c_ret hM (opt_of l2 h)
inductive partsS (xs : List V) (Q : Post) (σ : View)  : Prop
  | mk (row w) : xs = [.lst row, .int w] → Q (.lst ((cutL w row).map .tup)) σ → partsS xs Q σ
theorem parts_ok (Φ : Spec) (hM : SpecMono Φ) (Gc : Nat → V) {xs : List V} {Q : Post} {σ : View} (h : partsS xs Q σ) : xs.length = 2 ∧ swps Φ Gc m_parts (fun σ' _ => Q .none σ') Q σ (argLs xs) := by
  obtain ⟨row, w, rfl, h⟩ := h
  refine ⟨rfl, ?_⟩
  unfold cutL at h
  by_cases q : (row.length : Int) ≤ w
  · rw [if_pos q] at h
    refine c_ite_ret hM ?_ h
    skip
    exact ⟨rfl, decide_eq_true q⟩
  · rw [if_neg q] at h
    refine c_guard hM ?_ ?_
    · skip
      exact ⟨rfl, decide_eq_false q⟩
    refine c_let hM (v := .int (row.length / 2 : Nat)) ?_ ?_
    · skip
      exact r2
    refine c_ret hM ?_
    sizeOf_list_dec
    rw [sliceL_take (Int.natCast_nonneg _), sliceL_drop (Int.natCast_nonneg _)]
    exact h
inductive entryS (xs : List V) (Q : Post) (σ : View)  : Prop
  | mk (n k y r x) : xs = [.int n, x] → (x = .tup (.tup [.int k, y] :: r) ∨ x = .lst (.tup [.int k, y] :: r)) → Q (.tup [.int k, .int n]) σ → entryS xs Q σ
theorem entry_ok (Φ : Spec) (hM : SpecMono Φ) (Gc : Nat → V) {xs : List V} {Q : Post} {σ : View} (h : entryS xs Q σ) : xs.length = 2 ∧ swps Φ Gc m_entry_of (fun σ' _ => Q .none σ') Q σ (argLs xs) := by
  obtain ⟨n, k, y, r, x, rfl, hx, h⟩ := h
  refine ⟨rfl, c_ret hM ?_⟩
  have e : itemV σ x (.int 0) = some (.tup [.int k, y]) := by rcases hx with rfl | rfl <;> exact r_it_t0 (σ := σ)
  skip
  refine opt_of e ?_
  skip
  exact h
inductive freeS (xs : List V) (Q : Post) (σ : View)  : Prop
  | mk (B a ch) : xs = [.dct B, .ref a] → σ a = some (.dict false ch) → Q (.int (frN (keysD B ++ keysD ch))) σ → freeS xs Q σ
theorem isSome_mem {B : Dct} {j : Int} : (lookD j B).isSome = true ↔ j ∈ keysD B := by
  cases e : lookD j B with
  | none => exact ⟨fun h => ff h, fun h => absurd h (lookD_none.mp e)⟩
  | some b => exact ⟨fun _ => look_mem e, fun _ => rfl⟩
inductive FrI (B : Dct) (a : Addr) (ch : Dct) (σ : View) (n : Nat) (σ' : View) (ls' : Ls) : Prop
  | mk (m : Int) : σ' = σ → 1 ≤ m → m ≤ frN (keysD B ++ keysD ch) → (n : Int) = frN (keysD B ++ keysD ch) - m → ls' 0 = some (.dct B) → ls' 1 = some (.ref a) → ls' 2 = some (.int m) → FrI B a ch σ n σ' ls'
theorem free_ok (Φ : Spec) (hM : SpecMono Φ) (Gc : Nat → V) {xs : List V} {Q : Post} {σ : View} (h : freeS xs Q σ) : xs.length = 2 ∧ swps Φ Gc m_free_number (fun σ' _ => Q .none σ') Q σ (argLs xs) := by
  obtain ⟨B, a, ch, rfl, ha, h⟩ := h
  obtain ⟨f1, f2, f3⟩ := frN_ok (keysD B ++ keysD ch)
  refine ⟨rfl, c_let hM (v := .int 1) r2 ?_⟩
  refine c_loop hM (FrI B a ch σ) ⟨(frN (keysD B ++ keysD ch) - 1).toNat, 1, rfl, Int.le_refl _, f2, Int.toNat_of_nonneg (Int.sub_nonneg_of_le f2), rfl, rfl, rfl⟩ ?_
  rintro n σ' ls' ⟨m, rfl, m1, m2, hn, l0, l1, l2⟩
  have hin : inV σ' (.int m) (.ref a) = some (lookD m ch).isSome := by
    show (dicOf σ' (.ref a)).map _ = _
    simp only [dicOf, ha]; rfl
  have next : m ∈ keysD B ++ keysD ch → swps Φ Gc (ss [.assign 2 (.op .add (es [(.var 2), (.lit (.int 1))]))]) (fun σ₃ ls₃ => ∃ k, k < n ∧ FrI B a ch σ' k σ₃ ls₃) Q σ' ls' := fun hm => by
    have : m ≠ frN (keysD B ++ keysD ch) := fun e => f1 (e ▸ hm)
    refine c_any hM (r := .nil) (opt_of l2 ?_)
    skip
    exact ⟨n - 1, by (first | lia | omega), m + 1, rfl, by (first | lia | omega), by (first | lia | omega), by (first | lia | omega), l0, l1, rfl⟩
  refine opt_of l2 ?_
  skip
  refine opt_of l0 ?_
  sizeOf_list_dec
  cases e1 : (lookD m B).isSome with
  | true => exact next (List.mem_append.mpr (.inl (isSome_mem.mp e1)))
  | false =>
    sizeOf_list_dec
    refine opt_of l2 ?_
    skip
    refine opt_of l1 (opt_map hin ?_)
    skip
    cases e2 : (lookD m ch).isSome with
    | true => exact next (List.mem_append.mpr (.inr (isSome_mem.mp e2)))
    | false =>
      refine c_ret hM (opt_of l2 ?_)
      have : m = frN (keysD B ++ keysD ch) := frN_unique (fun q => ?_) m1 fun x x1 x2 => f3 x x1 (Int.lt_of_lt_of_le x2 m2)
      · rw [this]; exact h
      · rcases List.mem_append.mp q with q | q
        · rw [isSome_mem.mpr q] at e1; exact ff2 e1
        · rw [isSome_mem.mpr q] at e2; exact ff2 e2
end

section
open PySem PySem.W PySem.Calls PyProof.Rows
set_option maxRecDepth 100000
set_option linter.unusedSimpArgs false
set_option linter.unusedVariables false
/-! unlike -/
noncomputable def unlP (B : Dct) (q : Int × V) : Bool := @decide ((lookD q.1 B).getD .none ≠ q.2) (Classical.propDecidable _)
theorem unl_true {B : Dct} {q : Int × V} : unlP B q = true ↔ (lookD q.1 B).getD .none ≠ q.2 := @decide_eq_true_iff _ (Classical.propDecidable _)
noncomputable def unl (B ch : Dct) : Dct := ch.filter (unlP B)
inductive unlS (xs : List V) (Q : Post) (σ : View)  : Prop
  | mk (B ch) : xs = [.dct B, .dct ch] → (∀ q ∈ B, Pv 3 q.2) → (∀ q ∈ ch, Pv 3 q.2) → (keysD ch).Nodup → ch.length < 10000 → Q (.dct (unl B ch)) σ → unlS xs Q σ
inductive UnI (B ch : Dct) (a : Addr) (σ : View) (k : Nat) (σ' : View) (ls' : Ls) : Prop
  | mk : σ' = σ.upd a (.dict false ((ch.take k).filter (unlP B))) → ls' 0 = some (.dct B) → ls' 1 = some (.dct ch) → ls' 2 = some (.ref a) → UnI B ch a σ k σ' ls'
theorem unl_ok (Φ : Spec) (hM : SpecMono Φ) (Gc : Nat → V) {xs : List V} {Q : Post} {σ : View} (h : unlS xs Q σ) : xs.length = 2 ∧ swps Φ Gc m_unlike (fun σ' _ => Q .none σ') Q σ (argLs xs) := by
  obtain ⟨B, ch, rfl, pB, pc, nd, hl, h⟩ := h
  refine ⟨rfl, cut_dict fun a ha => ?_⟩
  refine c_for_d hM (ds := ch) (UnI B ch a σ) r2 ⟨rfl, rfl, rfl, rfl⟩ ?_ ?_
  · rintro k ⟨n, v⟩ hk σ' ls' ⟨rfl, l0, l1, l2⟩
    have hm : (n, v) ∈ ch := List.mem_iff_getElem?.mpr ⟨k, hk⟩
    have hv := mem_lookD nd hm
    have ht : ch.take (k + 1) = ch.take k ++ [(n, v)] := by rw [List.take_add_one, hk]; rfl
    have pg : Pv 3 ((lookD n B).getD .none) := by
      cases e : lookD n B with
      | none => exact .none
      | some b => exact pB _ (lookD_some_mem e)
    obtain ⟨b, e1, e2⟩ := eqV_pv (σ := σ.upd a (.dict false ((ch.take k).filter (unlP B)))) pg (pc _ hm)
    refine ctwp_t hM ?_
    refine opt_of l0 ⟨⟨B, rfl⟩, ?_⟩
    sizeOf_list_dec
    refine opt_of (a := (lookD n B).getD .none) rfl ?_
    skip
    refine opt_of l1 ?_
    sizeOf_list_dec
    refine opt_of hv ?_
    skip
    refine opt_map e1 ?_
    skip
    cases b with
    | true =>
      refine ⟨?_, l0, l1, l2⟩
      rw [ht, List.filter_append, List.filter_cons_of_neg fun q => unl_true.mp q (e2.mp rfl), show List.filter (unlP B) [] = [] from rfl, List.append_nil]
    | false =>
      have hq : unlP B (n, v) = true := unl_true.mpr fun e => ff (e2.mpr e)
      refine c_set hM (r := .nil) ?_
      refine opt_of l1 ?_
      skip
      refine opt_of hv (opt_of l2 ?_)
      skip
      refine ⟨a, n, _, rfl, rfl, upd_self _ _ _, ?_, ?_, l0, l1, l2⟩
      · have h1 := List.length_filter_le (unlP B) (ch.take k)
        have h2 := List.length_take_le' k ch
        unfold big; (first | lia | omega)
      · have hn : n ∉ keysD ((ch.take k).filter (unlP B)) := fun q => by
          obtain ⟨⟨n', v'⟩, hq2, rfl⟩ := List.mem_map.mp q
          have nd2 := nd
          rw [← List.take_append_drop (k + 1) ch, ht] at nd2
          rw [show keysD ((ch.take k ++ [(n', v)]) ++ ch.drop (k + 1)) = (keysD (ch.take k) ++ [n']) ++ keysD (ch.drop (k + 1)) by unfold keysD; rw [List.map_append, List.map_append]; rfl] at nd2
          exact (List.nodup_append.mp (List.nodup_append.mp nd2).1).2.2 n' (List.mem_map.mpr ⟨(n', v'), (List.mem_filter.mp hq2).1, rfl⟩) n' (.head _) rfl
        rw [upd_upd, put_new (lookD_none.mpr hn), ht, List.filter_append, List.filter_cons_of_pos hq]; rfl
  · rintro σ' ls' ⟨rfl, l0, l1, l2⟩
    refine cut_freezeD l2 (upd_self _ _ _) ?_
    rw [del_upd ha, List.take_length]
    exact c_ret hM h
/-! below, pairs_of, listed: forests by their numbers -/
noncomputable def numE (h : Nat) (c : E (h + 1)) : Int := (c : T h).1
noncomputable def kidE (h : Nat) (c : E (h + 1)) : List (E h) := (c : T h).2
noncomputable def nmF (h : Nat) (F : List (E (h + 1))) : List V := F.map fun c => .int (numE h c)
noncomputable def kidF (h : Nat) (F : List (E (h + 1))) : List (E h) := F.flatMap (kidE h)
theorem prs_kid {h : Nat} : ∀ {F : List (E (h + 1))}, prsF (h + 1) F = prsF h (kidF h F)
  | [] => rfl
  | c :: F => by
    show prsE (h + 1) c ++ prsF (h + 1) F = prsF h (kidE h c ++ kidF h F)
    rw [prsF_app, prs_kid]; rfl
theorem len_prs {w : Int} (hw : 3 ≤ w) {h : Nat} : ∀ {c : List (E h)}, (∀ x ∈ c, WfE w h x) → c.length ≤ (prsF h c).length
  | [], _ => Nat.le_refl _
  | x :: c, hf => by
    obtain ⟨p, r, e, _⟩ := key_prs hw (hf x (.head _))
    have := len_prs hw fun y hy => hf y (.tail _ hy)
    show c.length + 1 ≤ (prsE h x ++ prsF h c).length
    rw [e, List.length_append, List.length_cons]; (first | lia | omega)
theorem take_kid {h : Nat} {F : List (E (h + 1))} {k : Nat} {c : E (h + 1)} (e : F[k]? = some c) : kidF h (F.take (k + 1)) = kidF h (F.take k) ++ kidE h c := by
  unfold kidF; rw [List.take_add_one, e, List.flatMap_append]; exact congrArg (_ ++ ·) (List.append_nil _)
theorem kid_len {w : Int} (hw : 3 ≤ w) {h : Nat} {F : List (E (h + 1))} (hf : ∀ x ∈ kidF h F, WfE w h x) (hl : (prsF (h + 1) F).length ≤ 2000) (k : Nat) : (kidF h (F.take k)).length ≤ 2000 := by
  have e : kidF h F = kidF h (F.take k) ++ kidF h (F.drop k) := by unfold kidF; rw [← List.flatMap_append, List.take_append_drop]
  have := len_prs hw (c := kidF h (F.take k)) fun x hx => hf x (by rw [e]; exact List.mem_append.mpr (.inl hx))
  rw [prs_kid, e, prsF_app, List.length_append] at hl
  (first | lia | omega)
/-- a forest whose blocks stand in the dict -/
structure For (w : Int) (B : Dct) {h : Nat} (F : List (E (h + 1))) : Prop where
  hw : 3 ≤ w
  hw2 : w ≤ 64
  wf : ∀ x ∈ kidF h F, WfE w h x
  few : (prsF (h + 1) F).length ≤ 2000
  most : ∀ c ∈ F, ((kidE h c).length : Int) ≤ w
  inB : ∀ q ∈ bksF (h + 1) F, lookD q.1 B = some q.2
theorem For.look {w : Int} {B : Dct} {h : Nat} {F : List (E (h + 1))} (f : For w B F) {c : E (h + 1)} (hc : c ∈ F) : lookD (numE h c) B = some (blkT h (kidE h c)) := f.inB (numE h c, blkT h (kidE h c)) (List.mem_flatMap.mpr ⟨_, hc, .head _⟩)
theorem For.kid {w : Int} {B : Dct} {h : Nat} {F : List (E (h + 2))} (f : For w B F) : For w B (kidF (h + 1) F) := by
  refine ⟨f.hw, f.hw2, fun x hx => ?_, by rw [← prs_kid]; exact f.few, fun c hc => (f.wf c hc).1.2, fun q hq => ?_⟩
  · obtain ⟨c, hc, hx⟩ := List.mem_flatMap.mp hx
    exact (f.wf c hc).2 x hx
  · obtain ⟨c, hc, hq⟩ := List.mem_flatMap.mp hq
    obtain ⟨d, hd, hc⟩ := List.mem_flatMap.mp hc
    exact f.inB q (List.mem_flatMap.mpr ⟨d, hd, .tail _ (List.mem_flatMap.mpr ⟨c, hc, hq⟩)⟩)
inductive belS (xs : List V) (Q : Post) (σ : View)  : Prop
  | mk (w : Int) (B : Dct) (h : Nat) (F : List (E (h + 2))) : xs = [.dct B, .lst (nmF (h + 1) F)] → For w B F → Q (.lst (nmF h (kidF (h + 1) F))) σ → belS xs Q σ
inductive BeI (h : Nat) (F : List (E (h + 2))) (B : Dct) (a : Addr) (σ : View) (k : Nat) (σ' : View) (ls' : Ls) : Prop
  | mk : σ' = σ.upd a (.list false (nmF h (kidF (h + 1) (F.take k)))) → ls' 0 = some (.dct B) → ls' 2 = some (.ref a) → BeI h F B a σ k σ' ls'
theorem bel_ok (Φ : Spec) (hM : SpecMono Φ) (Gc : Nat → V) {xs : List V} {Q : Post} {σ : View} (h : belS xs Q σ) : xs.length = 2 ∧ swps Φ Gc m_below (fun σ' _ => Q .none σ') Q σ (argLs xs) := by
  obtain ⟨w, B, h, F, rfl, f, hQ⟩ := h
  refine ⟨rfl, c_any hM ⟨Nat.zero_le _, fun a ha => ?_⟩⟩
  refine c_for_l hM (xs := nmF (h + 1) F) (BeI h F B a σ) ⟨rfl, .inl rfl⟩ ⟨rfl, rfl, rfl⟩ ?_ ?_
  · rintro k v hv σ' ls' ⟨rfl, l0, l2⟩
    obtain ⟨c, hc, rfl⟩ := Option.map_eq_some_iff.mp ((List.getElem?_map ..).symm.trans hv)
    have hm : c ∈ F := List.mem_iff_getElem?.mpr ⟨k, hc⟩
    have hl := f.most c hm
    have hw2 := f.hw2
    have hk := kid_len f.hw f.wf f.few k
    refine c_expr hM (r := .nil) (opt_of l2 ⟨⟨a, false, _, rfl, upd_self _ _ _⟩, ?_⟩)
    sizeOf_list_dec
    refine w_comp_m hM (xs := rowE (h + 1) (kidE (h + 1) c)) sndV (cwp_e hM _ ?_) (by unfold rowE; rw [List.length_map]; unfold big; (first | lia | omega)) (fun p hp => cwp_e hM _ ?_) ?_
    · refine opt_of l0 ?_
      skip
      refine opt_of (f.look hm) ?_
      unfold blkT blkV
      skip
      exact ⟨rfl, .inr rfl⟩
    · obtain ⟨x, hx, rfl⟩ := List.mem_map.mp hp
      exact r2
    · refine ⟨_, upd_self _ _ _, ?_, ?_, l0, l2⟩
      · unfold nmF rowE; rw [List.length_map, List.length_map, List.length_map]; unfold big; (first | lia | omega)
      · rw [upd_upd, take_kid hc]; unfold nmF rowE; rw [List.map_append, List.map_map]; rfl
  rintro σ' ls' ⟨rfl, l0, l2⟩
  refine cut_freezeL l2 (upd_self _ _ _) ?_
  rw [del_upd ha, show (nmF (h + 1) F).length = F.length from List.length_map _, List.take_length]
  exact c_ret hM hQ
inductive pofS (xs : List V) (Q : Post) (σ : View)  : Prop
  | mk (w : Int) (B : Dct) (F : List (E 1)) : xs = [.dct B, .lst (nmF 0 F)] → For w B F → Q (.lst (prsF 1 F)) σ → pofS xs Q σ
inductive PoI (F : List (E 1)) (B : Dct) (a : Addr) (σ : View) (k : Nat) (σ' : View) (ls' : Ls) : Prop
  | mk : σ' = σ.upd a (.list false (rowE 0 (kidF 0 (F.take k)))) → ls' 0 = some (.dct B) → ls' 2 = some (.ref a) → PoI F B a σ k σ' ls'
theorem pof_ok (Φ : Spec) (hM : SpecMono Φ) (Gc : Nat → V) {xs : List V} {Q : Post} {σ : View} (h : pofS xs Q σ) : xs.length = 2 ∧ swps Φ Gc m_pairs_of (fun σ' _ => Q .none σ') Q σ (argLs xs) := by
  obtain ⟨w, B, F, rfl, f, hQ⟩ := h
  refine ⟨rfl, c_any hM ⟨Nat.zero_le _, fun a ha => ?_⟩⟩
  refine c_for_l hM (xs := nmF 0 F) (PoI F B a σ) ⟨rfl, .inl rfl⟩ ⟨rfl, rfl, rfl⟩ ?_ ?_
  · rintro k v hv σ' ls' ⟨rfl, l0, l2⟩
    obtain ⟨c, hc, rfl⟩ := Option.map_eq_some_iff.mp ((List.getElem?_map ..).symm.trans hv)
    have hm : c ∈ F := List.mem_iff_getElem?.mpr ⟨k, hc⟩
    have hl := f.most c hm
    have hw2 := f.hw2
    have hk := kid_len f.hw f.wf f.few k
    refine c_expr hM (r := .nil) (opt_of l2 ⟨⟨a, false, _, rfl, upd_self _ _ _⟩, ?_⟩)
    refine opt_of l0 ?_
    skip
    refine opt_of (f.look hm) ?_
    unfold blkT blkV
    skip
    refine ⟨_, upd_self _ _ _, ?_, ?_, l0, l2⟩
    · unfold rowE; rw [List.length_map, List.length_map]; unfold big; (first | lia | omega)
    · rw [upd_upd, take_kid hc, rowE_app]
  rintro σ' ls' ⟨rfl, l0, l2⟩
  refine cut_freezeL l2 (upd_self _ _ _) ?_
  rw [del_upd ha, show (nmF 0 F).length = F.length from List.length_map _, List.take_length, row0]
  rw [prs_kid, prs0] at hQ
  exact c_ret hM hQ
end

section
open PySem PySem.W PySem.Calls PyProof.Rows
set_option maxRecDepth 100000
set_option linter.unusedSimpArgs false
set_option linter.unusedVariables false
/-! way_to, value_in, listed -/
structure Tr (w : Int) (B : Dct) {H : Nat} (top : T H) : Prop where
  hw : 3 ≤ w
  hw2 : w ≤ 64
  root : RootT w H top
  ris : Ris (prsF H top.2)
  nd : (keysD (bksE (H + 1) top)).Nodup
  inB : ∀ q ∈ bksE (H + 1) top, lookD q.1 B = some q.2
  few : (prsF H top.2).length ≤ 2000
theorem Way.look {w : Int} {B : Dct} {H : Nat} {top : T H} (tr : Tr w B top) {k : Int} {ns : List Int} {p : List Nat} {h : Nat} {t : T h} (W : Way k top ns p h t) : lookD t.1 B = some (blkT h t.2) := tr.inB _ (W.blocks (t.1, blkT h t.2) (.head _))
theorem Way.most {w : Int} {B : Dct} {H : Nat} {top : T H} (tr : Tr w B top) {k : Int} {ns : List Int} {p : List Nat} {h : Nat} {t : T h} (W : Way k top ns p h t) : (t.2.length : Int) ≤ w := by
  cases W with
  | top => exact tr.root.most
  | down W e => exact ((W.wf tr.hw tr.root).1 _ (List.mem_iff_getElem?.mpr ⟨_, e⟩)).1.2
theorem idx_last {α : Type} {xs : List α} {x : α} : ((idxOf (-1) (xs ++ [x]).length).bind fun j => (xs ++ [x])[j]?) = some x := by
  have e : idxOf (-1) (xs ++ [x]).length = some xs.length := by
    unfold idxOf
    rw [if_neg (by decide), List.length_append, if_pos (by show -((xs.length + 1 : Nat) : Int) ≤ -1; (first | lia | omega))]
    show some ((-1 + ((xs.length + 1 : Nat) : Int)).toNat) = _
    congr 1; (first | lia | omega)
  rw [e]
  show (xs ++ [x])[xs.length]? = _
  rw [List.getElem?_append_right (Nat.le_refl _), Nat.sub_self]; rfl
theorem it_last {σ : View} {a : Addr} {ro : Bool} {xs : List V} {x : V} (h : σ a = some (.list ro (xs ++ [x]))) : itemV σ (.ref a) (.int (-1)) = some x := by
  have e : seqOf σ (.ref a) = some (xs ++ [x]) := by show (match σ a with | some (.list _ xs) => some xs | _ => none) = _; rw [h]
  exact (itemV_seq e).trans idx_last
theorem upd_swap {σ : View} {a b : Addr} {c d e : Cell} (h : a ≠ b) : ((σ.upd a c).upd b d).upd a e = (σ.upd a e).upd b d := by
  funext x
  show (if x = a then some e else if x = b then some d else if x = a then some c else σ x) = if x = b then some d else if x = a then some e else σ x
  by_cases q : x = a
  · rw [if_pos q, if_neg (q ▸ h), if_pos q]
  · rw [if_neg q, if_neg q, if_neg q]
theorem upd_other {σ : View} {a b : Addr} {c d : Cell} (h : a ≠ b) : ((σ.upd a c).upd b d) a = some c := (if_neg h).trans (upd_self _ _ _)
theorem kind_br : decide (kindT 0 = Str.ofString "branch") = false ∧ ∀ n, decide (kindT (n + 1) = Str.ofString "branch") = true := ⟨by decide, fun _ => decide_eq_true rfl⟩
noncomputable def natV (n : Nat) : V := .int n
inductive wayS (xs : List V) (Q : Post) (σ : View)  : Prop
  | mk (w : Int) (B : Dct) (H : Nat) (top : T H) (k : Int) : xs = [.dct B, .int k] → Tr w B top → (∀ ns ps (t : T 0), Way k top ns ps 0 t → Q (.tup [.lst (ns.map .int), .lst (ps.map natV)]) σ) → wayS xs Q σ
theorem high {w : Int} {B : Dct} {H : Nat} {top : T H} (tr : Tr w B top) : H ≤ 11 := by
  cases H with
  | zero => exact Nat.zero_le _
  | succ H =>
    obtain ⟨n, cs⟩ := top
    cases cs with
    | nil => exact absurd (tr.root.two (Nat.succ_ne_zero _)) (by show ¬ 2 ≤ 0; decide)
    | cons c cs =>
      have h1 := prs_len tr.hw (tr.root.wf c (.head _))
      have h2 := tr.few
      rw [show prsF (H + 1) (c :: cs) = prsE (H + 1) c ++ prsF (H + 1) cs from rfl, List.length_append] at h2
      have h3 : 2 ^ (H + 1) ≤ 2000 := Nat.le_trans h1 (Nat.le_trans (Nat.le_add_right _ _) h2)
      by_cases q : H + 1 ≤ 11
      · exact q
      · have := Nat.pow_le_pow_right (n := 2) Nat.two_pos (Nat.not_le.mp q)
        exact absurd (Nat.le_trans this h3) (by decide)
inductive WaI (k : Int) {H : Nat} (top : T H) (B : Dct) (a b : Addr) (σ : View) (n : Nat) (σ' : View) (ls' : Ls) : Prop
  | mk (ns ps) (t : T n) : Way k top ns ps n t → σ' = (σ.upd a (.list false (ns.map .int))).upd b (.list false (ps.map natV)) → ls' 0 = some (.dct B) → ls' 1 = some (.int k) → ls' 2 = some (.ref a) → ls' 3 = some (.ref b) → WaI k top B a b σ n σ' ls'
theorem way_ok (Φ : Spec) (hM : SpecMono Φ) (Gc : Nat → V) (hP : ∀ xs Q σ, placeS xs Q σ → Φ 1 xs Q σ) {xs : List V} {Q : Post} {σ : View} (h : wayS xs Q σ) : xs.length = 2 ∧ swps Φ Gc m_way_to (fun σ' _ => Q .none σ') Q σ (argLs xs) := by
  obtain ⟨w, B, H, top, k, rfl, tr, h⟩ := h
  refine ⟨rfl, c_any hM ⟨by decide, fun a ha => c_any hM ⟨Nat.zero_le _, fun b hb => ?_⟩⟩⟩
  have hab : a ≠ b := fun e => by rw [← e, upd_self] at hb; cases hb
  have hbσ : σ b = none := by rw [upd_ne hab.symm] at hb; exact hb
  refine c_loop hM (WaI k top B a b σ)
    ⟨H, [top.1], [], top, .top, by rw [tr.root.num]; rfl, rfl, rfl, rfl, rfl⟩ ?_
  rintro n σ' ls' ⟨ns, ps, t, W, rfl, l0, l1, l2, l3⟩
  have hl := W.look tr
  obtain ⟨r, er⟩ := W.last
  have hlast : itemV ((σ.upd a (.list false (ns.map .int))).upd b (.list false (ps.map natV))) (.ref a) (.int (-1)) = some (.int t.1) := it_last (ro := false) (xs := r.map .int) (by rw [upd_other hab, er, List.map_append]; rfl)
  have hlen := W.len
  have hH := high tr
  refine opt_of l0 (opt_of l2 (opt_of hlast (opt_of hl ?_)))
  unfold blkT blkV
  sizeOf_list_dec
  cases n with
  | zero =>
    rw [kind_br.1]
    refine cut_freezeL l2 (upd_other hab) ?_
    refine cut_freezeL l3 (xs := ps.map natV) ((del_ne hab.symm).trans (upd_self _ _ _)) ?_
    have e : ((((σ.upd a (.list false (ns.map .int))).upd b (.list false (ps.map natV))).del a).del b) = σ := by
      funext x
      show (if x = b then none else if x = a then none else if x = b then _ else if x = a then _ else σ x) = σ x
      by_cases q : x = b
      · rw [if_pos q, q, hbσ]
      · rw [if_neg q]
        by_cases q2 : x = a
        · rw [if_pos q2, q2, ha]
        · rw [if_neg q2, if_neg q, if_neg q2]
    rw [e]
    exact c_ret hM (h ns ps t W)
  | succ n =>
    rw [kind_br.2]
    have hm := W.most tr
    have hw2 := tr.hw2
    have h2 := (W.wf tr.hw tr.root).2.1 (Nat.succ_ne_zero _)
    have hat := at_lt (h := n + 1) (c := t.2) (k := k) (Nat.lt_of_lt_of_le Nat.two_pos h2)
    have e : t.2[atF (n + 1) t.2 k]? = some (t.2[atF (n + 1) t.2 k]'hat) := List.getElem?_eq_getElem _
    generalize t.2[atF (n + 1) t.2 k]'hat = c at e
    have er2 : (rowE (n + 1) t.2)[atF (n + 1) t.2 k]? = some (entE (n + 1) c) := by unfold rowE; rw [List.getElem?_map, e]; rfl
    refine c_let hM (v := .tup (rowE (n + 1) t.2)) ?_ ?_
    · refine opt_of l0 (opt_of l2 (opt_of hlast (opt_of hl ?_)))
      exact r2
    refine c_let hM (v := natV (atF (n + 1) t.2 k)) ?_ ?_
    · skip
      refine opt_of l1 ?_
      refine hP _ _ _ ⟨_, k, rfl, ents_row (W.wf tr.hw tr.root).1, by unfold rowE; rw [List.length_map]; (first | lia | omega), rfl, ?_⟩
      rw [row_keys]; unfold rowE; rw [List.length_map]; rfl
    refine c_expr hM (opt_of l3 ⟨⟨b, false, _, rfl, upd_self _ _ _⟩, ?_⟩)
    refine ⟨_, upd_self _ _ _, by rw [List.length_map]; unfold big; (first | lia | omega), ?_⟩
    refine c_expr hM (r := .nil) (opt_of l2 ⟨⟨a, false, ns.map .int, rfl, by rw [upd_upd]; exact upd_other hab⟩, ?_⟩)
    skip
    refine opt_of (idx_get er2) ?_
    refine ⟨ns.map .int, by rw [upd_upd]; exact upd_other hab, by rw [List.length_map]; unfold big; (first | lia | omega), n, Nat.lt_succ_self n, _, _, c, .down W e, ?_, l0, l1, l2, l3⟩
    rw [upd_upd, upd_swap hab, List.map_append, List.map_append]; rfl
/-- the value of a row's only pair -/
noncomputable def onlyV (l : List V) : V := sndV (l.headD .none)
theorem only_app {a b : List V} {k : Int} : onlyR (a ++ b) k = onlyR a k ++ onlyR b k := List.filter_append ..
theorem only_yes {p : V} {k : Int} (q : keyOf p = k) : onlyR [p] k = [p] := List.filter_cons_of_pos (decide_eq_true q)
theorem only_no {p : V} {k : Int} (q : keyOf p ≠ k) : onlyR [p] k = [] := List.filter_cons_of_neg (by rw [decide_eq_false q]; exact Bool.false_ne_true)
inductive valS (xs : List V) (Q : Post) (σ : View)  : Prop
  | mk (w : Int) (B : Dct) (H : Nat) (top : T H) (k : Int) : xs = [.dct B, .int k] → Tr w B top → Q (onlyV (onlyR (prsF H top.2) k)) σ → valS xs Q σ
inductive VaI (k : Int) (t : List V) (σ : View) (j : Nat) (σ' : View) (ls' : Ls) : Prop
  | mk : σ' = σ → ls' 1 = some (.int k) → onlyR (t.take j) k = [] → VaI k t σ j σ' ls'
theorem val_ok (Φ : Spec) (hM : SpecMono Φ) (Gc : Nat → V) (hW : ∀ xs Q σ, wayS xs Q σ → Φ 5 xs Q σ) {xs : List V} {Q : Post} {σ : View} (h : valS xs Q σ) : xs.length = 2 ∧ swps Φ Gc m_value_in (fun σ' _ => Q .none σ') Q σ (argLs xs) := by
  obtain ⟨w, B, H, top, k, rfl, tr, h⟩ := h
  refine ⟨rfl, c_assign hM (fun d => ∃ t : List V, ∃ n, d = .int n ∧ lookD n B = some (blkV sLeaf t) ∧ (∀ x ∈ t, ∃ k s, x = .tup [.int k, .str s]) ∧ onlyR (prsF H top.2) k = onlyR t k) ?_ ?_⟩
  · refine hW _ _ _ ⟨w, B, H, top, k, rfl, tr, fun ns ps t W => ?_⟩
    obtain ⟨r, er⟩ := W.last
    skip
    refine opt_of (a := .int t.1) (by rw [er, List.map_append]; exact idx_last) ?_
    exact ⟨rfl, rowE 0 t.2, t.1, rfl, W.look tr, fun x hx => (W.wf tr.hw tr.root).1 x (row0 t.2 ▸ hx), by rw [W.only tr.hw tr.root tr.ris, prs0, row0]⟩
  rintro _ ⟨t, n, rfl, hl, hf, ho⟩
  rw [ho] at h
  refine c_for_l hM (xs := t) (VaI k t σ) ?_ ⟨rfl, rfl, rfl⟩ ?_ ?_
  · skip
    refine opt_of hl ?_
    exact ⟨rfl, .inr rfl⟩
  · rintro j p hj σ' ls' ⟨rfl, l1, hn⟩
    have hp := List.mem_iff_getElem?.mpr ⟨j, hj⟩
    obtain ⟨k', s, rfl⟩ := hf p hp
    have ht : t.take (j + 1) = t.take j ++ [.tup [.int k', .str s]] := by rw [List.take_add_one, hj]; rfl
    refine ctwp_t hM ?_
    skip
    refine opt_of l1 ?_
    sizeOf_list_dec
    by_cases q : k' = k
    · rw [decide_eq_true q]
      refine c_ret hM ?_
      sizeOf_list_dec
      have : onlyR t k = .tup [.int k', .str s] :: onlyR (t.drop (j + 1)) k := by
        have e : onlyR (t.take (j + 1) ++ t.drop (j + 1)) k = onlyR t k := by rw [List.take_append_drop]
        rw [← e, only_app, ht, only_app, hn, only_yes (p := .tup [.int k', .str s]) q]; rfl
      rw [this] at h; exact h
    · rw [decide_eq_false q]
      refine ⟨rfl, l1, ?_⟩
      rw [ht, only_app, hn, only_no (p := .tup [.int k', .str s]) q]; rfl
  · rintro σ' ls' ⟨rfl, l1, hn⟩
    rw [List.take_length] at hn
    rw [hn] at h
    exact c_ret hM h
theorem For.top {w : Int} {B : Dct} {H : Nat} {top : T H} (tr : Tr w B top) : For w B [nE top.1 top.2] := by
  refine ⟨tr.hw, tr.hw2, ?_, ?_, ?_, ?_⟩
  · rw [show kidF H [nE top.1 top.2] = top.2 from List.append_nil _]; exact tr.root.wf
  · rw [prsF_one]; exact tr.few
  · intro c hc; rw [List.mem_singleton.mp hc]; exact tr.root.most
  · rw [bksF_one]; exact tr.inB
inductive lstS (xs : List V) (Q : Post) (σ : View)  : Prop
  | mk (w : Int) (B : Dct) (H : Nat) (top : T H) : xs = [.dct B] → Tr w B top → Q (.lst (prsF H top.2)) σ → lstS xs Q σ
inductive LsI (w : Int) (B : Dct) {H : Nat} (top : T H) (σ : View) (n : Nat) (σ' : View) (ls' : Ls) : Prop
  | mk (c) (F : List (E (n + 1))) : σ' = σ → For w B (c :: F) → prsF (n + 1) (c :: F) = prsF H top.2 → (n ≠ 0 → 0 < (kidE n c).length) → ls' 0 = some (.dct B) → ls' 1 = some (.lst (nmF n (c :: F))) → LsI w B top σ n σ' ls'
theorem lst_ok (Φ : Spec) (hM : SpecMono Φ) (Gc : Nat → V) (hB : ∀ xs Q σ, belS xs Q σ → Φ 3 xs Q σ) (hP : ∀ xs Q σ, pofS xs Q σ → Φ 4 xs Q σ) {xs : List V} {Q : Post} {σ : View} (h : lstS xs Q σ) : xs.length = 1 ∧ swps Φ Gc m_listed (fun σ' _ => Q .none σ') Q σ (argLs xs) := by
  obtain ⟨w, B, H, top, rfl, tr, h⟩ := h
  refine ⟨rfl, c_let hM (v := .lst (nmF H [nE top.1 top.2])) ⟨rfl, by show _ = V.lst [.int top.1]; rw [tr.root.num]⟩ ?_⟩
  refine c_loop hM (LsI w B top σ)
    ⟨H, nE top.1 top.2, [], rfl, For.top tr, prsF_one, fun q => Nat.lt_of_lt_of_le Nat.two_pos (tr.root.two q), rfl, rfl⟩ ?_
  rintro n σ' ls' ⟨c, F, rfl, f, hp, hn, l0, l1⟩
  refine opt_of l0 (opt_of l1 (opt_of (r_it_t0 (σ := σ')) (opt_of (f.look (.head _)) ?_)))
  unfold blkT blkV
  sizeOf_list_dec
  cases n with
  | zero =>
    rw [kind_br.1]
    refine c_ret hM (opt_of l0 (opt_of l1 (hP _ _ _ ⟨w, B, c :: F, rfl, f, ?_⟩)))
    rw [hp]; exact h
  | succ n =>
    rw [kind_br.2]
    refine c_let hM (r := .nil) (v := .lst (nmF n (kidF (n + 1) (c :: F)))) (opt_of l0 (opt_of l1 (hB _ _ _ ⟨w, B, n, c :: F, rfl, f, rfl, rfl⟩))) ?_
    have hk := f.kid
    have hp2 : prsF (n + 1) (kidF (n + 1) (c :: F)) = prsF H top.2 := by rw [← prs_kid]; exact hp
    have hn := hn (Nat.succ_ne_zero _)
    have hw := f.wf
    cases e : kidF (n + 1) (c :: F) with
    | nil =>
      have e2 : kidE (n + 1) c ++ kidF (n + 1) F = [] := e
      rw [(List.append_eq_nil_iff.mp e2).1] at hn
      exact absurd hn (Nat.lt_irrefl _)
    | cons d G =>
      rw [e] at hk hp2 hw
      exact ⟨n, Nat.lt_succ_self n, d, G, rfl, hk, hp2, fun _ => Nat.lt_of_lt_of_le Nat.two_pos (wf_two f.hw (hw d (.head _))), l0, rfl⟩
end

section
open PySem PySem.W PySem.Calls PyProof.Rows
set_option maxRecDepth 100000
set_option linter.unusedSimpArgs false
set_option linter.unusedVariables false
/-! loops down; steps of put_in -/
section
variable {Φ : Spec} {G : Nat → V} {ls : Ls} {Q : View → Ls → Prop} {R : Post} {σ : View} {r : MSs}
theorem rangeX3 {a b c : Int} (h1 : smallI a = true) (h2 : smallI b = true) (h3 : c = -1) : rangeXs [.int a, .int b, .int c] = some ((rangeD a b).map .int) := if_pos ⟨by rw [h1, h2]; rfl, h3⟩
theorem c_for_dn (hM : SpecMono Φ) {i : Nat} {es : MEs} {b : MSs} {n : Nat} (I : Nat → View → Ls → Prop) (he : cwps Φ G ls es (fun vs σ' => σ' = σ ∧ vs = [.int n, .int 0, .int (-1)]) σ) (h1 : n < 1000) (hI : I n σ ls)
    (hs : ∀ d : Nat, d < n → ∀ σ₂ ls₂, I (d + 1) σ₂ ls₂ → swps Φ G b (fun σ₃ ls₃ => I d σ₃ ls₃) R σ₂ (ls₂.set i (.int ((d : Int) + 1)))) (hk : ∀ σ₂ ls₂, I 0 σ₂ ls₂ → swps Φ G r Q R σ₂ ls₂) : swps Φ G (.cons (.for1 (.one i) (.range es) b) r) Q R σ ls := by
  refine ewps_mono (Q' := fun vs σ' => itWp 1 vs (fun xs u σ₁ => _) σ') hM _ (cwps_e hM _ he) ?_
  rintro vs σ' ⟨e1, e2⟩
  subst e1; subst e2
  have e : rangeXs [.int n, .int 0, .int (-1)] = some ((List.range n).map fun (k : Nat) => V.int ((n : Int) + (k : Int) * (-1))) := by
    rw [rangeX3 (smallI_of (by (first | lia | omega)) (by (first | lia | omega))) (smallI_of (by (first | lia | omega)) (by (first | lia | omega))) rfl]
    unfold rangeD
    rw [List.map_map, show ((n : Int) - 0).toNat = n by (first | lia | omega)]; rfl
  refine ⟨_, e, fun k => I (n - k), hI, fun k v σ₂ ls₂ hv hk2 => ?_, fun σ₂ ls₂ h => ?_⟩
  · rw [List.getElem?_map, Option.map_eq_some_iff] at hv
    obtain ⟨j, hj, rfl⟩ := hv
    obtain ⟨hj1, hj2⟩ := List.getElem?_eq_some_iff.mp hj
    simp only [List.length_range, List.getElem_range] at hj1 hj2
    subst hj2
    have q1 : n - k = n - (k + 1) + 1 := by (first | lia | omega)
    have q2 : (n : Int) + (k : Int) * (-1) = ((n - (k + 1) : Nat) : Int) + 1 := by (first | lia | omega)
    rw [q2]
    have hk2 : I (n - k) σ₂ ls₂ := hk2
    rw [q1] at hk2
    exact hs (n - (k + 1)) (by (first | lia | omega)) σ₂ ls₂ hk2
  · have h : I (n - ((List.range n).map fun (k : Nat) => V.int ((n : Int) + (k : Int) * (-1))).length) σ₂ ls₂ := h
    rw [List.length_map, List.length_range, Nat.sub_self] at h; exact hk σ₂ ls₂ h
end
theorem add_l {σ : View} {a b : List V} (h : a.length + b.length ≤ big) : addV σ (.lst a) (.lst b) = some (.lst (a ++ b)) := if_pos h
theorem idx_at {xs : List V} {i : Int} {k : Nat} {p : V} (hi : i = k) (h : xs[k]? = some p) : ((idxOf i xs.length).bind fun j => xs[j]?) = some p := by rw [hi]; exact idx_get h
/-- the changes so far, as a dict -/
structure Cd (n : Nat) (ch : Dct) : Prop where
  nd : (keysD ch).Nodup
  pv : ∀ q ∈ ch, Pv 3 q.2
  len : ch.length ≤ n
theorem Cd.put {n : Nat} {ch : Dct} {j : Int} {b : V} (c : Cd n ch) (hb : Pv 3 b) : Cd (n + 1) (putD j b ch) :=
  ⟨nodup_put c.nd, fun q hq => (mem_put hq).elim (fun e => e ▸ hb) (c.pv q), Nat.le_trans len_put_le (Nat.succ_le_succ c.len)⟩
theorem Cd.mono {n m : Nat} {ch : Dct} (c : Cd n ch) (h : n ≤ m) : Cd m ch := ⟨c.nd, c.pv, Nat.le_trans c.len h⟩
/-- what parts makes of a row -/
inductive Cut (w : Int) {h : Nat} (c : List (E h)) : List (E h) → List (List (E h)) → Prop
  | one : (c.length : Int) ≤ w → Cut w c c []
  | two : w < c.length → Cut w c (c.take (c.length / 2)) [c.drop (c.length / 2)]
theorem cut_row {w : Int} {h : Nat} (c : List (E h)) : ∃ c0 rest, Cut w c c0 rest ∧ (cutL w (rowE h c)).map V.tup = (c0 :: rest).map fun l => V.tup (rowE h l) := by
  have hl : (rowE h c).length = c.length := List.length_map _
  unfold cutL
  rw [hl]
  by_cases q : (c.length : Int) ≤ w
  · rw [if_pos q]; exact ⟨c, [], .one q, rfl⟩
  · rw [if_neg q]; refine ⟨_, _, .two (Int.not_le.mp q), ?_⟩
    unfold rowE; rw [← List.map_take, ← List.map_drop]; rfl
theorem ent_cons {w : Int} {h : Nat} {c : List (E h)} (hc : c ≠ []) (hf : ∀ x ∈ c, WfE w h x) (n : Int) : ∃ k y r, rowE h c = .tup [.int k, y] :: r ∧ V.tup [.int k, .int n] = entE (h + 1) (nE n c) := by
  cases c with
  | nil => exact absurd rfl hc
  | cons x c =>
    obtain ⟨y, e⟩ := ent_form (hf x (.head _))
    exact ⟨keyE h x, y, rowE h c, by show entE h x :: _ = _; rw [e]; rfl, rfl⟩
theorem ne_of_len {α : Type} {l : List α} (h : 0 < l.length) : l ≠ [] := fun e => by rw [e] at h; exact Nat.lt_irrefl _ h
theorem slice_row {h : Nat} {c y : List (E h)} {i : Nat} : sliceL (rowE h c) 0 (some (i : Int)) ++ rowE h y ++ sliceL (rowE h c) ((i : Int) + 1) none = rowE h (c.take i ++ y ++ c.drop (i + 1)) := by
  rw [sliceL_take (Int.natCast_nonneg _), sliceL_drop (by (first | lia | omega)), rowE_app, rowE_app]
  unfold rowE; rw [List.map_take, List.map_drop]; rfl
theorem slice_len {α : Type} {xs : List α} {a : Int} {b : Option Int} : (sliceL xs a b).length ≤ xs.length := by
  unfold sliceL; rw [List.length_drop]
  have := List.length_take_le' (b.elim xs.length (clipI xs.length)) xs
  (first | lia | omega)
/-- where a change has come to on its way up -/
inductive Up (w k : Int) (f : List V → List V) (a b : Nat) (B : Dct) {H : Nat} (top : T H) (ns : List Int) (ps : List Nat) (d : Nat) (row : List V) (word : Str) (ch : Dct) (m : Nat) (go : List Int) : Prop
  | mk {n1 n2 : List Int} {p1 p2 : List Nat} {h : Nat} {t : T h} {c : List (E h)} : Way k top n1 p1 h t → p1.length = d → ns = n1 ++ n2 → ps = p1 ++ p2 → Pn w f a b B t.2 c ch m go → m ≤ h → row = rowE h c → word = kindT h →
    Up w k f a b B top ns ps d row word ch m go
/-- one step up: a block and its parent -/
inductive Stp (w k : Int) (f : List V → List V) (a b : Nat) (B : Dct) {H : Nat} (top : T H) (ns : List Int) (ps : List Nat) (d : Nat) (row : List V) (word : Str) (ch : Dct) (m : Nat) (go : List Int) : Prop
  | mk {n1 n2 : List Int} {p1 p2 : List Nat} {h : Nat} {t' : T (h + 1)} {t : T h} {c : List (E h)} : Way k top n1 p1 (h + 1) t' → p1.length = d → ns = n1 ++ n2 → ps = p1 ++ p2 → Pn w f a b B t.2 c ch m go → m ≤ h → row = rowE h c → word = kindT h →
    t'.2[atF (h + 1) t'.2 k]? = some (nE t.1 t.2) → WfE w (h + 1) t → ns[d + 1]? = some t.1 → ns[d]? = some t'.1 → ps[d]? = some (atF (h + 1) t'.2 k) →
    t'.2 = t'.2.take (atF (h + 1) t'.2 k) ++ [nE t.1 t.2] ++ t'.2.drop (atF (h + 1) t'.2 k + 1) → Cu w f B (t'.2.take (atF (h + 1) t'.2 k)) t.1 t.2 (t'.2.drop (atF (h + 1) t'.2 k + 1)) →
    Stp w k f a b B top ns ps d row word ch m go
theorem Up.step {w k : Int} {f : List V → List V} {a b : Nat} {B : Dct} {H : Nat} {top : T H} {ns : List Int} {ps : List Nat} {d : Nat} {row : List V} {word : Str} {ch : Dct} {m : Nat} {go : List Int} (tr : Tr w B top) (Md : Mid k f)
    (u : Up w k f a b B top ns ps (d + 1) row word ch m go) : Stp w k f a b B top ns ps d row word ch m go := by
  cases u with | @mk n1 n2 p1 p2 h t c W hp hns hps hn hm hr hwd =>
  cases W with
  | top => exact absurd hp (Nat.succ_ne_zero d).symm
  | @down n1 p1 _ t' _ W e =>
    have hl := W.len
    rw [List.length_append] at hp
    have hp : p1.length = d := Nat.succ.inj hp
    obtain ⟨r, er⟩ := W.last
    have hr1 : r.length = d := by have := hl.1; rw [er, List.length_append, hp] at this; exact Nat.succ.inj this
    have hn1 : n1.length = d + 1 := by rw [hl.1, hp]
    obtain ⟨c1, c2⟩ := W.cx (n := t.1) (t := t.2) tr.hw tr.root tr.ris tr.nd tr.inB Md e
    refine .mk W hp (hns.trans (List.append_assoc ..)) (hps.trans (List.append_assoc ..)) hn hm hr hwd e ((W.wf tr.hw tr.root).1 _ (List.mem_iff_getElem?.mpr ⟨_, e⟩)) ?_ ?_ ?_ c1 c2
    · rw [hns, List.append_assoc, List.getElem?_append_right (Nat.le_of_eq hn1), hn1, Nat.sub_self]; rfl
    · rw [hns, er, List.append_assoc, List.append_assoc, List.getElem?_append_right (Nat.le_of_eq hr1), hr1, Nat.sub_self]; rfl
    · rw [hps, List.append_assoc, List.getElem?_append_right (Nat.le_of_eq hp), hp, Nat.sub_self]; rfl
theorem Up.end_ {w k : Int} {f : List V → List V} {a b : Nat} {B : Dct} {H : Nat} {top : T H} {ns : List Int} {ps : List Nat} {row : List V} {word : Str} {ch : Dct} {m : Nat} {go : List Int}
    (u : Up w k f a b B top ns ps 0 row word ch m go) : ∃ c, Pn w f a b B top.2 c ch m go ∧ m ≤ H ∧ row = rowE H c ∧ word = kindT H := by
  obtain ⟨W, hp, hns, hps, hn, hm, hr, hwd⟩ := u
  cases W with
  | top => exact ⟨_, hn, hm, hr, hwd⟩
  | down W e => rw [List.length_append] at hp; exact absurd hp (Nat.succ_ne_zero _)
theorem map_at {α : Type} {f : α → V} {l : List α} {i : Nat} {x : α} (h : l[i]? = some x) : (l.map f)[i]? = some (f x) := by rw [List.getElem?_map, h]; rfl
end

section
open PySem PySem.W PySem.Calls PyProof.Rows
set_option maxRecDepth 100000
set_option linter.unusedSimpArgs false
set_option linter.unusedVariables false
/-! put_in -/
theorem row_len8 {h : Nat} {c : List (E h)} : (rowE h c).length = c.length := List.length_map _
theorem w_filt {Φ : Spec} (hM : SpecMono Φ) {G : Nat → V} {ls : Ls} {e : ME} {x : Nat} {t : ME} {xs : List V} {Q : Post} {σ : View} (p : V → Bool) (he : ewp Φ G ls e (fun d σ' => σ' = σ ∧ (d = .lst xs ∨ d = .tup xs)) σ) (hx : xs.length ≤ big)
    (h : ∀ v ∈ xs, ewp Φ G (ls.set x v) t (fun d σ' => σ' = σ ∧ d = .bool (p v)) σ) (hQ : Q (.lst (xs.filter p)) σ) : ewp Φ G ls (.comp false (.var x) (.one x) (.seq e) (.cons t .nil)) Q σ := by
  refine w_comp hM p (fun v => v) he hx (fun v hv => ewp_mono hM t (h v hv) ?_) (by rw [List.map_id']; exact hQ)
  rintro d σ' ⟨rfl, rfl⟩
  refine ⟨p v, rfl, ?_⟩
  cases q : p v with
  | true => exact ⟨rfl, rfl, fun _ => ⟨v, if_pos rfl, rfl, rfl⟩⟩
  | false => exact ⟨rfl, rfl, fun h => ff h⟩
theorem it_l0 {σ : View} {x : V} {xs : List V} : itemV σ (.lst (x :: xs)) (.int 0) = some x := r_it_t0 (σ := σ)
theorem ent_call {Φ : Spec} (hE : ∀ xs Q σ, entryS xs Q σ → Φ 10 xs Q σ) {w : Int} {h : Nat} {c : List (E h)} {n : Int} {Q : Post} {σ : View} (hc : c ≠ []) (hf : ∀ x ∈ c, WfE w h x) (hQ : Q (entE (h + 1) (nE n c)) σ) : Φ 10 [.int n, .tup (rowE h c)] Q σ := by
  obtain ⟨k, y, r, e1, e2⟩ := ent_cons hc hf n
  exact hE _ _ _ ⟨_, k, y, r, _, rfl, .inl (by rw [e1]), by rw [e2]; exact hQ⟩
theorem c_for_2 {Φ : Spec} {G : Nat → V} {ls : Ls} {Q : View → Ls → Prop} {R : Post} {σ : View} {r : MSs} (hM : SpecMono Φ) {i : Nat} {e : ME} {b : MSs} {x y : V} {J1 J2 : View → Ls → Prop} (he : cwp Φ G ls e (fun d σ' => σ' = σ ∧ (d = .lst [x, y] ∨ d = .tup [x, y])) σ) (h1 : swps Φ G b J1 R σ (ls.set i x)) (h2 : ∀ σ₂ ls₂, J1 σ₂ ls₂ → swps Φ G b J2 R σ₂ (ls₂.set i y))
    (hk : ∀ σ₂ ls₂, J2 σ₂ ls₂ → swps Φ G r Q R σ₂ ls₂) : swps Φ G (.cons (.for1 (.one i) (.seq e) b) r) Q R σ ls := by
  refine c_for_l hM (xs := [x, y]) (fun j σ' ls' => (j = 0 ∧ σ' = σ ∧ ls' = ls) ∨ (j = 1 ∧ J1 σ' ls') ∨ (j = 2 ∧ J2 σ' ls')) he (.inl ⟨rfl, rfl, rfl⟩) ?_ ?_
  · rintro j v hv σ' ls' (⟨rfl, rfl, rfl⟩ | ⟨rfl, h⟩ | ⟨rfl, h⟩)
    · cases hv; exact swps_mono hM _ h1 (fun _ _ h => .inr (.inl ⟨rfl, h⟩)) fun _ _ h => h
    · cases hv; exact swps_mono hM _ (h2 _ _ h) (fun _ _ h => .inr (.inr ⟨rfl, h⟩)) fun _ _ h => h
    · cases hv
  · rintro σ' ls' (⟨h, _⟩ | ⟨h, _⟩ | ⟨_, h⟩)
    · cases h
    · cases h
    · exact hk _ _ h
inductive putS (xs : List V) (Q : Post) (σ : View)  : Prop
  | mk (w : Int) (B : Dct) (H : Nat) (top : T H) (k : Int) (s : Str) : xs = [.dct B, .int w, .int k, .str s] → Tr w B top → (∀ q ∈ B, Pv 3 q.2) → (∀ ch, Fin8 w (fun r => insRow r k (.str s)) B top ch → Cd 100 ch → Q (.dct (unl B ch)) σ) → putS xs Q σ
inductive PuI (w k : Int) (s : Str) (B : Dct) {H : Nat} (top : T H) (ns : List Int) (ps : List Nat) (a : Addr) (σ : View) (d : Nat) (σ' : View) (ls' : Ls) : Prop
  | mk (row word ch m) : Up w k (fun r => insRow r k (.str s)) 0 1 B top ns ps d row word ch m [] → Cd (2 * (H - d)) ch → σ' = σ.upd a (.dict false ch) → ls' 0 = some (.dct B) → ls' 1 = some (.int w) → ls' 4 = some (.tup [.lst (ns.map .int), .lst (ps.map natV)]) → ls' 5 = some (.lst (ns.map .int)) → ls' 7 = some (.lst row) → ls' 9 = some (.ref a) → ls' 10 = some (.str word) → PuI w k s B top ns ps a σ d σ' ls'
inductive PuJ (w k : Int) (s : Str) (B : Dct) (H d : Nat) {h' : Nat} (t' : T (h' + 1)) (ns : List Int) (ps : List Nat) (a b : Addr) (σ : View) (σ₃ : View) (ls₃ : Ls) : Prop
  | mk (Y ch' m') : Pn w (fun r => insRow r k (.str s)) 0 1 B t'.2 (t'.2.take (atF (h' + 1) t'.2 k) ++ Y ++ t'.2.drop (atF (h' + 1) t'.2 k + 1)) ch' m' [] → m' ≤ h' + 1 → Cd (2 * (H - d)) ch' → σ₃ = (σ.upd a (.dict false ch')).upd b (.list false (rowE (h' + 1) Y)) → Y.length ≤ 2 → ls₃ 0 = some (.dct B) → ls₃ 1 = some (.int w) → ls₃ 4 = some (.tup [.lst (ns.map .int), .lst (ps.map natV)]) → ls₃ 5 = some (.lst (ns.map .int)) → ls₃ 9 = some (.ref a) → ls₃ 11 = some (.int ((d : Int) + 1)) → ls₃ 13 = some (.ref b) → PuJ w k s B H d t' ns ps a b σ σ₃ ls₃
inductive PuE (w k : Int) (s : Str) (B : Dct) {H : Nat} (top : T H) (a : Addr) (σ : View) (σ₃ : View) (ls₃ : Ls) : Prop
  | mk (ch') : Fin8 w (fun r => insRow r k (.str s)) B top ch' → Cd 100 ch' → σ₃ = σ.upd a (.dict false ch') → ls₃ 0 = some (.dct B) → ls₃ 9 = some (.ref a) → PuE w k s B top a σ σ₃ ls₃
structure PuS (B : Dct) (H : Nat) (a b : Addr) (x σ₃ : View) (ls₃ : Ls) : Prop where
  v : σ₃ = x
  l0 : ls₃ 0 = some (.dct B)
  l9 : ls₃ 9 = some (.ref a)
  l10 : ls₃ 10 = some (.str (kindT H))
  l13 : ls₃ 13 = some (.ref b)
theorem put_stp {Φ : Spec} (hM : SpecMono Φ) {Gc : Nat → V} {Q : Post} (hF : ∀ xs Q σ, freeS xs Q σ → Φ 8 xs Q σ) (hE : ∀ xs Q σ, entryS xs Q σ → Φ 10 xs Q σ) {w : Int} {B : Dct} {H : Nat} {a b : Addr} {σ : View} (hab : a ≠ b) {ch0 ch1 : Dct} {n0 : Nat} {ej : List (E (H + 1))} {cj : List (E H)} {g : Int} {ls' : Ls}
    (hc : Cd n0 ch0) (hn0 : n0 < 1000) (hej : ej.length ≤ 2) (hcj : cj ≠ []) (hfj : ∀ x ∈ cj, WfE w H x) (hg : g = frN (keysD B ++ keysD ch0)) (h1 : ch1 = putD g (blkT H cj) ch0) (l0 : ls' 0 = some (.dct B)) (l9 : ls' 9 = some (.ref a)) (l10 : ls' 10 = some (.str (kindT H))) (l13 : ls' 13 = some (.ref b)) :
    swps Φ Gc (ss [.assign 14 (.call 8 (es [(.var 0), (.var 9)])), .setSub (.var 9) (.var 14) (.op .mkTup (es [(.var 10), (.var 17)])), .expr (.meth .append (.var 13) (es [(.call 10 (es [(.var 14), (.var 17)]))]))])
      (PuS B H a b ((σ.upd a (.dict false ch1)).upd b (.list false (rowE (H + 1) (ej ++ [nE g cj]))))) Q ((σ.upd a (.dict false ch0)).upd b (.list false (rowE (H + 1) ej))) (ls'.set 17 (.tup (rowE H cj))) := by
  subst h1
  refine c_let hM (v := .int g) (opt_of l0 (opt_of l9 (hF _ _ _ ⟨B, a, _, rfl, upd_other hab, rfl, by rw [hg]⟩))) ?_
  refine c_setd hM (v := blkT H cj) (opt_of l10 r2) (opt_of l9 r2) r2 (upd_other hab) (Nat.lt_of_le_of_lt hc.len (by unfold big; (first | lia | omega))) (upd_swap hab) ?_
  exact c_push hM (r := .nil) l13 (ent_call hE hcj hfj r2) (upd_self _ _ _) (by rw [row_len8]; unfold big; (first | lia | omega)) (by rw [upd_upd, rowE_app]; rfl) ⟨rfl, l0, l9, l10, l13⟩
theorem put_ok (Φ : Spec) (hM : SpecMono Φ) (Gc : Nat → V) (hP : ∀ xs Q σ, partsS xs Q σ → Φ 2 xs Q σ) (hW : ∀ xs Q σ, wayS xs Q σ → Φ 5 xs Q σ) (hF : ∀ xs Q σ, freeS xs Q σ → Φ 8 xs Q σ) (hU : ∀ xs Q σ, unlS xs Q σ → Φ 9 xs Q σ) (hE : ∀ xs Q σ, entryS xs Q σ → Φ 10 xs Q σ)
    {xs : List V} {Q : Post} {σ : View} (h : putS xs Q σ) : xs.length = 4 ∧ swps Φ Gc m_put_in (fun σ' _ => Q .none σ') Q σ (argLs xs) := by
  obtain ⟨w, B, H, top, k, s, rfl, tr, pB, h⟩ := h
  have hw3 := tr.hw
  have hw2 := tr.hw2
  have hH := high tr
  have hh := two_half hw3
  refine ⟨rfl, c_assign hM (fun d => ∃ ns ps, ∃ t : T 0, Way k top ns ps 0 t ∧ d = .tup [.lst (ns.map .int), .lst (ps.map natV)]) (hW _ _ _ ⟨w, B, H, top, k, rfl, tr, fun ns ps t W => ⟨rfl, ns, ps, t, W, rfl⟩⟩) ?_⟩
  rintro _ ⟨ns, ps, t, W, rfl⟩
  have hlen := W.len
  refine c_let hM (v := .lst (ns.map .int)) r2 ?_
  obtain ⟨r, er⟩ := W.last
  refine c_let hM (v := .tup (rowE 0 t.2)) ?_ ?_
  · skip
    refine opt_of (a := .int t.1) (by rw [er, List.map_append]; exact idx_last) ?_
    skip
    refine opt_of (W.look tr) ?_
    exact r2
  have hbig : ∀ {h : Nat} {t : T h} {ns : List Int} {ps : List Nat}, Way k top ns ps h t → (rowE h t.2).length ≤ big := fun W => by have := W.most tr; rw [row_len8]; unfold big; (first | lia | omega)
  have hil := insRow_len (k := k) (v := .str s) (row := rowE 0 t.2) (by have := W.ris tr.ris; rw [prs0, ← row0 t.2] at this; exact this)
  rw [row_len8] at hil
  have hmost := W.most tr
  refine c_let hM (v := .lst (insRow (rowE 0 t.2) k (.str s))) ?_ ?_
  · sizeOf_list_dec
    have hpr : ∀ {v : V}, v ∈ rowE 0 t.2 → ∃ k' s, v = .tup [.int k', .str s] := fun {v} hv => (W.wf hw3 tr.root).1 v (row0 t.2 ▸ hv)
    refine w_filt hM (fun v => decide (keyOf v < k)) (cwp_e hM _ ⟨rfl, .inr rfl⟩) (hbig W) (fun v hv => cwp_e hM _ ?_) ?_
    · obtain ⟨k', s, rfl⟩ := hpr hv
      skip
      exact r2
    sizeOf_list_dec
    have hf1 := List.length_filter_le (fun v => decide (keyOf v < k)) (rowE 0 t.2)
    have hf2 := List.length_filter_le (fun v => decide (k < keyOf v)) (rowE 0 t.2)
    rw [row_len8] at hf1 hf2
    refine opt_of (add_l (by show _ + 1 ≤ _; unfold big; (first | lia | omega))) ?_
    refine w_filt hM (fun v => decide (k < keyOf v)) (cwp_e hM _ ⟨rfl, .inr rfl⟩) (hbig W) (fun v hv => cwp_e hM _ ?_) ?_
    · obtain ⟨k', s, rfl⟩ := hpr hv
      skip
      exact r2
    refine opt_of (add_l (by rw [List.length_append]; show _ + 1 + _ ≤ _; unfold big; (first | lia | omega))) ?_
    exact r2
  refine cut_dict fun a ha => ?_
  refine c_let hM (v := .str sLeaf) r2 ?_
  refine c_for_dn hM (n := H) (PuI w k s B top ns ps a σ) ?_ (by (first | lia | omega)) ?_ ?_ ?_
  · skip
    refine ⟨rfl, ?_⟩
    rw [List.length_map, hlen.1, ← hlen.2, show (((ps.length + 1 : Nat) : Int) - 1) = ((ps.length + 0 : Nat) : Int) by (first | lia | omega)]
  · refine ⟨_, _, [], 0, .mk (h := 0) (c := insRow (rowE 0 t.2) k (.str s)) W (by rw [← hlen.2]; rfl) (List.append_nil _).symm (List.append_nil _).symm (Pn.leaf (congrArg (fun r => insRow r k (.str s)) (row0 t.2)) (ins_wf fun x hx => (W.wf hw3 tr.root).1 x (row0 t.2 ▸ hx)) hil.1 hil.2) (Nat.le_refl _) rfl rfl, ⟨.nil, fun q hq => (List.not_mem_nil hq).elim, Nat.zero_le _⟩, rfl, rfl, rfl, rfl, rfl, congrArg (fun l : List V => some (V.lst l)) (row0 (insRow (rowE 0 t.2) k (.str s) : List V)).symm, rfl, rfl⟩
  · rintro d hd σ' ls' ⟨row, word, ch, m, U, hc, rfl, l0, l1, l4, l5, l7, l9, l10⟩
    cases U.step tr ins_mid with | @mk n1 n2 p1 p2 h' t' t c W1 hp1 hns hps hn hm hrow hword e hwf en1 en0 ep hs cx =>
    subst hrow hword
    have hlo := hn.lo
    have hhi := hn.hi
    have hw1 : halfI w ≤ t.2.length := hwf.1.1
    have hw4 : (t.2.length : Int) ≤ w := hwf.1.2
    obtain ⟨c0, rest, ct, ecut⟩ := cut_row (w := w) c
    have hc0 : c0 ≠ [] ∧ ∀ x ∈ c0, WfE w h' x := by
      cases ct with
      | one q => exact ⟨ne_of_len (by (first | lia | omega)), hn.wf⟩
      | two q => exact ⟨ne_of_len (by rw [List.length_take]; (first | lia | omega)), fun x hx => hn.wf x (List.mem_of_mem_take hx)⟩
    have hlen2 := hc.len
    refine c_let hM (v := .lst (.tup (rowE h' c0) :: rest.map fun l => .tup (rowE h' l))) (opt_of l7 (opt_of l1 (hP _ _ _ ⟨_, w, rfl, rfl, by rw [ecut]; rfl⟩))) ?_
    refine c_setd hM (v := blkT h' c0) (opt_of l10 (opt_of (it_l0 (σ := σ)) r2)) (opt_of l9 r2) (opt_of l5 (opt_of (idx_at (k := d + 1) rfl (map_at en1)) r2)) (upd_self _ _ _) (by unfold big; (first | lia | omega)) (upd_upd _ _ _ _) ?_
    refine c_newl hM (xs := [entE (h' + 1) (nE t.1 c0)]) (opt_of l5 (opt_of (idx_at (k := d + 1) rfl (map_at en1)) (opt_of (it_l0 (σ := σ)) (ent_call hE hc0.1 hc0.2 r2)))) (show 1 ≤ 1000 by decide) fun b hb => ?_
    have hab : a ≠ b := fun e => by rw [← e, upd_self] at hb; cases hb
    refine swps_cut hM (I := PuJ w k s B H d t' ns ps a b σ) ?_ ?_
    · cases ct with
      | one q =>
        refine c_ite hM (r := .nil) false (by exact r2) (PuJ.mk [nE t.1 c] _ m ?_ (Nat.le_succ_of_le hm) ((hc.put (pv_blk hn.wf)).mono (by (first | lia | omega))) rfl (Nat.le_succ 1) l0 l1 l4 l5 l9 rfl rfl)
        have := hn.keep cx (by (first | lia | omega)) q
        rw [← hs] at this; exact this
      | two q =>
        have hd1 : c.drop (c.length / 2) ≠ [] ∧ ∀ x ∈ c.drop (c.length / 2), WfE w h' x := ⟨ne_of_len (by rw [List.length_drop]; (first | lia | omega)), fun x hx => hn.wf x (List.mem_of_mem_drop hx)⟩
        refine c_ite hM (r := .nil) true (by exact r2) ?_
        refine c_let hM (v := .int (frN (keysD B ++ keysD (putD t.1 (blkT h' (c.take (c.length / 2))) ch)))) (opt_of l0 (opt_of l9 (hF _ _ _ ⟨B, a, _, rfl, upd_other hab, rfl, rfl⟩))) ?_
        refine c_setd hM (v := blkT h' (c.drop (c.length / 2))) (opt_of l10 r2) (opt_of l9 r2) r2 (upd_other hab) (Nat.lt_of_le_of_lt (hc.put (j := t.1) (pv_blk hc0.2)).len (by unfold big; (first | lia | omega))) (upd_swap hab) ?_
        refine c_push hM (r := .nil) rfl (ent_call hE hd1.1 hd1.2 r2) (upd_self _ _ _) (show 1 < 2 ^ 24 by decide) (upd_upd _ _ _ _) ?_
        refine PuJ.mk [nE t.1 (c.take (c.length / 2)), nE _ (c.drop (c.length / 2))] _ (m + 1) ?_ (Nat.succ_le_succ hm) (((hc.put (pv_blk hc0.2)).put (pv_blk hd1.2)).mono (by (first | lia | omega))) rfl (Nat.le_refl _) l0 l1 l4 l5 l9 rfl rfl
        have := hn.part cx (Nat.le_refl 1) q (by (first | lia | omega)) rfl
        rw [← hs] at this; exact this
    rintro σ₃ ls₃ ⟨Y, ch', m', hn', hm', hc', rfl, hY, l0, l1, l4, l5, l9, l11, l13⟩
    have hb' : (σ.upd a (.dict false ch')) b = none := by rw [upd_ne hab.symm] at hb ⊢; exact hb
    have hmost' := W1.most tr
    refine c_let hM (v := .lst (rowE (h' + 1) t'.2)) ?_ ?_
    · refine opt_of l0 (opt_of l5 (opt_of l11 ?_))
      skip
      refine opt_of (idx_at (k := d) (by (first | lia | omega)) (map_at en0)) ?_
      skip
      refine opt_of (W1.look tr) ?_
      exact r2
    refine c_let hM (v := .int ((atF (h' + 1) t'.2 k : Nat) : Int)) ?_ ?_
    · refine opt_of l4 ?_
      skip
      refine opt_of l11 ?_
      skip
      refine opt_of (idx_at (k := d) (by (first | lia | omega)) (map_at ep)) ?_
      exact r2
    refine cut_freezeL l13 (upd_self _ _ _) ?_
    refine swps_at (del_upd hb') ?_
    refine c_let hM (v := .lst (rowE (h' + 1) (t'.2.take (atF (h' + 1) t'.2 k) ++ Y ++ t'.2.drop (atF (h' + 1) t'.2 k + 1)))) ?_ ?_
    · sizeOf_list_dec
      have s1 := slice_len (xs := rowE (h' + 1) t'.2) (a := 0) (b := some ((atF (h' + 1) t'.2 k : Nat) : Int))
      have s2 := slice_len (xs := rowE (h' + 1) t'.2) (a := ((atF (h' + 1) t'.2 k : Nat) : Int) + 1) (b := none)
      rw [row_len8] at s1 s2
      refine opt_of (add_l (by rw [row_len8]; unfold big; (first | lia | omega))) ?_
      sizeOf_list_dec
      refine opt_of (add_l (by rw [List.length_append, row_len8]; unfold big; (first | lia | omega))) ?_
      exact ⟨rfl, by rw [slice_row]⟩
    refine c_let hM (r := .nil) (v := .str sBranch) r2 ?_
    exact ⟨_, _, ch', m', .mk W1 hp1 hns hps hn' hm' rfl rfl, hc', rfl, l0, l1, l4, l5, rfl, l9, rfl⟩
  · rintro σ' ls' ⟨row, word, ch, m, U, hc, rfl, l0, l1, l4, l5, l7, l9, l10⟩
    obtain ⟨c, hn, hm, rfl, rfl⟩ := U.end_
    have hhi := hn.hi
    have hmo := tr.root.most
    obtain ⟨c0, rest, ct, ecut⟩ := cut_row (w := w) c
    have hf0 : ∀ x ∈ c0, WfE w H x := by
      cases ct with
      | one q => exact hn.wf
      | two q => exact fun x hx => hn.wf x (List.mem_of_mem_take hx)
    refine c_let hM (v := .lst (.tup (rowE H c0) :: rest.map fun l => .tup (rowE H l))) (opt_of l7 (opt_of l1 (hP _ _ _ ⟨_, w, rfl, rfl, by rw [ecut]; rfl⟩))) ?_
    refine c_set hM (opt_of l10 (opt_of (it_l0 (σ := σ.upd a (.dict false ch))) ?_))
    skip
    refine opt_of l9 ?_
    have hlen2 := hc.len
    refine ⟨a, 0, ch, rfl, rfl, upd_self _ _ _, by unfold big; (first | lia | omega), ?_⟩
    refine swps_at (upd_upd _ _ _ _) ?_
    have hc1 : Cd 30 (putD 0 (blkT H c0) ch) := (hc.put (pv_blk hf0)).mono (by (first | lia | omega))
    refine swps_cut hM (I := PuE w k s B top a σ) ?_ ?_
    · cases ct with
      | one q => exact c_ite hM (r := .nil) false (by exact r2) (PuE.mk _ (hn.top1 tr.root tr.nd tr.inB hm q) (hc1.mono (by decide)) rfl l0 l9)
      | two q =>
        have hd1 : c.drop (c.length / 2) ≠ [] ∧ ∀ x ∈ c.drop (c.length / 2), WfE w H x := ⟨ne_of_len (by rw [List.length_drop]; (first | lia | omega)), fun x hx => hn.wf x (List.mem_of_mem_drop hx)⟩
        have hd0 : c.take (c.length / 2) ≠ [] := ne_of_len (by rw [List.length_take]; (first | lia | omega))
        obtain ⟨g1, eg1⟩ : ∃ g, g = frN (keysD B ++ keysD (putD 0 (blkT H (c.take (c.length / 2))) ch)) := ⟨_, rfl⟩
        obtain ⟨ch2, e2⟩ : ∃ x, x = putD g1 (blkT H (c.take (c.length / 2))) (putD 0 (blkT H (c.take (c.length / 2))) ch) := ⟨_, rfl⟩
        obtain ⟨g2, eg2⟩ : ∃ g, g = frN (keysD B ++ keysD ch2) := ⟨_, rfl⟩
        have hc2 : Cd 31 ch2 := e2 ▸ hc1.put (pv_blk hf0)
        have hc3 := hc2.put (j := g2) (pv_blk hd1.2)
        refine c_ite hM (r := .nil) true (by exact r2) ?_
        refine c_newl hM (xs := []) r2 (Nat.zero_le _) fun b hb => ?_
        have hab : a ≠ b := fun e => by rw [← e, upd_self] at hb; cases hb
        have hb' : ∀ x, (σ.upd a x) b = none := fun x => by rw [upd_ne hab.symm] at hb ⊢; exact hb
        refine c_for_2 hM (x := .tup (rowE H (c.take (c.length / 2)))) (y := .tup (rowE H (c.drop (c.length / 2)))) (J1 := PuS B H a b ((σ.upd a (.dict false ch2)).upd b (.list false (rowE (H + 1) [nE g1 (c.take (c.length / 2))])))) (J2 := PuS B H a b ((σ.upd a (.dict false (putD g2 (blkT H (c.drop (c.length / 2))) ch2))).upd b (.list false (rowE (H + 1) [nE g1 (c.take (c.length / 2)), nE g2 (c.drop (c.length / 2))]))))
          ⟨rfl, .inl rfl⟩ (put_stp hM hF hE hab (ej := []) hc1 (by decide) (Nat.zero_le _) hd0 hf0 eg1 e2 l0 l9 l10 rfl) ?_ ?_
        · rintro _ ls' ⟨rfl, l0, l9, l10, l13⟩
          exact put_stp hM hF hE hab (ej := [nE g1 (c.take (c.length / 2))]) hc2 (by decide) (Nat.le_succ 1) hd1.1 hd1.2 eg2 rfl l0 l9 l10 l13
        · rintro _ ls' ⟨rfl, l0, l9, l10, l13⟩
          refine cut_freezeL l13 (upd_self _ _ _) ?_
          refine swps_at (del_upd (hb' _)) ?_
          refine c_setd hM (r := .nil) (v := blkT (H + 1) [nE g1 (c.take (c.length / 2)), nE g2 (c.drop (c.length / 2))]) r2 (opt_of l9 r2) r2 (upd_self _ _ _) (Nat.lt_of_le_of_lt hc3.len (by decide)) (upd_upd _ _ _ _) ?_
          exact PuE.mk _ (hn.top2 tr.root hw3 tr.nd tr.inB hm q rfl eg1 e2 eg2 rfl) ((hc3.put (pv_blk (w := w) fun x hx => by
            obtain ⟨w1, w2⟩ := cut_wf q (by (first | lia | omega))
            rcases List.mem_cons.mp hx with rfl | hx
            · exact ⟨w1, hf0⟩
            · rw [List.mem_singleton.mp hx]; exact ⟨w2, hd1.2⟩)).mono (by decide)) rfl l0 l9
    rintro σ₃ ls₃ ⟨ch', hfin, hc', rfl, l0, l9⟩
    refine cut_freezeD l9 (upd_self _ _ _) ?_
    refine swps_at (del_upd ha) ?_
    have hcl := hc'.len
    exact c_ret hM (opt_of l0 (hU _ _ _ ⟨B, ch', rfl, pB, hc'.pv, hc'.nd, by (first | lia | omega), h ch' hfin hc'⟩))
end

section
open PySem PySem.W PySem.Calls PyProof.Rows
set_option maxRecDepth 100000
set_option linter.unusedSimpArgs false
set_option linter.unusedVariables false
/-! joined -/
inductive joinS (xs : List V) (Q : Post) (σ : View)  : Prop
  | mk (w : Int) (B : Dct) (a : Addr) (h : Nat) (c both : List (E h)) (L' R' : List (E (h + 1))) (x y : Int) (xc yc : List (E h)) (i : Int) (ch : Dct) : xs = [.dct B, .ref a, .int w, .str (kindT h), .lst (rowE h c), .lst (rowE (h + 1) (L' ++ [nE x xc, nE y yc] ++ R')), .int i] → ((i = (L'.length : Int) + 1 ∧ both = xc ++ c ∧ lookD x B = some (blkT h xc)) ∨ (i = 0 ∧ L' = [] ∧ both = c ++ yc ∧ lookD y B = some (blkT h yc))) → σ a = some (.dict false ch) → ch.length < 1000 → (∀ z ∈ both, WfE w h z) → 2 ≤ both.length → both.length ≤ 200 → L'.length ≤ 100 → R'.length ≤ 100 → ((both.length : Int) ≤ w → Q (.lst (rowE (h + 1) (L' ++ [nE x both] ++ R'))) (σ.upd a (.dict false (putD y .none (putD x (blkT h both) ch))))) → (w < both.length → Q (.lst (rowE (h + 1) (L' ++ [nE x (both.take (both.length / 2)), nE y (both.drop (both.length / 2))] ++ R'))) (σ.upd a (.dict false (putD y (blkT h (both.drop (both.length / 2))) (putD x (blkT h (both.take (both.length / 2))) ch))))) → joinS xs Q σ
theorem slice_mid {h : Nat} {L X R Y : List (E h)} {i : Int} (hi : i = (L.length : Int) + X.length) : sliceL (rowE h (L ++ X ++ R)) 0 (some (L.length : Int)) ++ rowE h Y ++ sliceL (rowE h (L ++ X ++ R)) i none = rowE h (L ++ Y ++ R) := by
  rw [sliceL_take (Int.natCast_nonneg _), sliceL_drop (by (first | lia | omega)), rowE_app (a := L ++ Y), rowE_app (a := L)]
  have e1 : (rowE h (L ++ X ++ R)).take ((L.length : Int)).toNat = rowE h L := by
    unfold rowE
    rw [show ((L.length : Int)).toNat = L.length from rfl, ← List.map_take, List.append_assoc, List.take_left]
  have e2 : (rowE h (L ++ X ++ R)).drop i.toNat = rowE h R := by
    unfold rowE
    rw [show i.toNat = (L ++ X).length by rw [List.length_append]; (first | lia | omega), ← List.map_drop, List.drop_left]
  rw [e1, e2]
theorem get_mid {h : Nat} {L R : List (E h)} {x : E h} {Y : List (E h)} : (rowE h (L ++ (x :: Y) ++ R))[L.length]? = some (entE h x) := by
  unfold rowE
  rw [List.getElem?_map, List.append_assoc, List.getElem?_append_right (Nat.le_refl _), Nat.sub_self]; rfl
theorem get_mid1 {h : Nat} {L R : List (E h)} {x y : E h} {Y : List (E h)} : (rowE h (L ++ (x :: y :: Y) ++ R))[L.length + 1]? = some (entE h y) := by
  unfold rowE
  rw [List.getElem?_map, List.append_assoc, List.getElem?_append_right (Nat.le_succ _), Nat.succ_sub (Nat.le_refl _), Nat.sub_self]; rfl
inductive JoI (Q : Post) {h' : Nat} (L' R' : List (E (h' + 1))) (x y : Int) (xc yc : List (E h')) (a b : Addr) (σ₃ : View) (σ₄ : View) (ls₄ : Ls) : Prop
  | mk (Y ch') : σ₄ = (σ₃.upd a (.dict false ch')).upd b (.list false (rowE (h' + 1) Y)) → Y.length ≤ 2 → Q (.lst (rowE (h' + 1) (L' ++ Y ++ R'))) (σ₃.upd a (.dict false ch')) → ls₄ 5 = some (.lst (rowE (h' + 1) (L' ++ [nE x xc, nE y yc] ++ R'))) → ls₄ 7 = some (.int (L'.length : Int)) → ls₄ 12 = some (.ref b) → JoI Q L' R' x y xc yc a b σ₃ σ₄ ls₄
theorem join_ok (Φ : Spec) (hM : SpecMono Φ) (Gc : Nat → V) (hP : ∀ xs Q σ, partsS xs Q σ → Φ 2 xs Q σ) (hE : ∀ xs Q σ, entryS xs Q σ → Φ 10 xs Q σ) {xs : List V} {Q : Post} {σ : View} (h : joinS xs Q σ) : xs.length = 7 ∧ swps Φ Gc m_joined (fun σ' _ => Q .none σ') Q σ (argLs xs) := by
  obtain ⟨w, B, a, h', c, both, L', R', x, y, xc, yc, i, ch, rfl, hi, ha, hcl, hwf, hb2, hb3, hL, hR, q1, q2⟩ := h
  have hlow : max (i - 1) 0 = (L'.length : Int) := by
    rcases hi with ⟨rfl, _⟩ | ⟨rfl, rfl, _⟩
    · (first | lia | omega)
    · rfl
  refine ⟨rfl, c_let hM (v := .int (L'.length : Int)) ⟨rfl, by rw [hlow]⟩ ?_⟩
  refine c_let hM (v := .int x) (opt_of (idx_get get_mid) r2) ?_
  refine c_let hM (v := .int y) (opt_of (idx_at (k := L'.length + 1) rfl get_mid1) r2) ?_
  refine c_ite_let hM (v := .lst (rowE h' both)) ?_ ?_
  · rcases hi with ⟨rfl, rfl, hl⟩ | ⟨rfl, rfl, rfl, hl⟩
    · sizeOf_list_dec
      rw [decide_eq_true (show (0 : Int) < (L'.length : Int) + 1 by (first | lia | omega))]
      rw [List.length_append] at hb3
      refine And.intro rfl (opt_of hl ?_)
      unfold blkT blkV
      sizeOf_list_dec
      refine opt_of (add_l (by rw [row_len8, row_len8]; unfold big; (first | lia | omega))) ?_
      exact ⟨rfl, by rw [rowE_app (a := xc)]⟩
    · rw [List.length_append] at hb3
      refine And.intro rfl (opt_of hl ?_)
      unfold blkT blkV
      sizeOf_list_dec
      refine opt_of (add_l (by rw [row_len8, row_len8]; unfold big; (first | lia | omega))) ?_
      exact ⟨rfl, by rw [rowE_app (a := c)]⟩
  obtain ⟨c0, rest, ct, ecut⟩ := cut_row (w := w) both
  have hc0 : c0 ≠ [] ∧ ∀ x ∈ c0, WfE w h' x := by
    cases ct with
    | one q => exact ⟨ne_of_len (Nat.lt_of_lt_of_le Nat.two_pos hb2), hwf⟩
    | two q => exact ⟨ne_of_len (by rw [List.length_take]; (first | lia | omega)), fun x hx => hwf x (List.mem_of_mem_take hx)⟩
  refine c_let hM (v := .lst (.tup (rowE h' c0) :: rest.map fun l => .tup (rowE h' l))) (hP _ _ _ ⟨_, w, rfl, rfl, by rw [ecut]; rfl⟩) ?_
  refine c_setd hM (v := blkT h' c0) (j := x) (opt_of (it_l0 (σ := σ)) r2) r2 r2 ha (by unfold big; (first | lia | omega)) rfl ?_
  refine c_setd hM (v := .none) (j := y) r2 r2 r2 (upd_self _ _ _) (Nat.lt_of_le_of_lt len_put_le (by unfold big; (first | lia | omega))) (upd_upd _ _ _ _) ?_
  refine c_newl hM (xs := [entE (h' + 1) (nE x c0)]) (opt_of (it_l0 (σ := σ)) (ent_call hE hc0.1 hc0.2 r2)) (show 1 ≤ 1000 by decide) fun b hb => ?_
  have hab : a ≠ b := fun e => by rw [← e, upd_self] at hb; cases hb
  have hb' : ∀ x, (σ.upd a x) b = none := fun x => by rw [upd_ne hab.symm] at hb ⊢; exact hb
  refine swps_cut hM (I := JoI Q L' R' x y xc yc a b σ) ?_ ?_
  · cases ct with
    | one q => exact c_ite hM (r := .nil) false (by exact r2) (JoI.mk [nE x both] _ rfl (Nat.le_succ 1) (q1 q) rfl rfl rfl)
    | two q =>
      have hd1 : both.drop (both.length / 2) ≠ [] ∧ ∀ x ∈ both.drop (both.length / 2), WfE w h' x := ⟨ne_of_len (by rw [List.length_drop]; (first | lia | omega)), fun x hx => hwf x (List.mem_of_mem_drop hx)⟩
      refine c_ite hM (r := .nil) true (by exact r2) ?_
      refine c_setd hM (v := blkT h' (both.drop (both.length / 2))) (j := y) r2 r2 r2 (upd_other hab) (Nat.lt_of_le_of_lt len_put_le (Nat.lt_of_le_of_lt (Nat.succ_le_succ len_put_le) (by unfold big; (first | lia | omega)))) ((upd_swap hab).trans (by rw [put_put])) ?_
      refine c_push hM (r := .nil) rfl (ent_call hE hd1.1 hd1.2 r2) (upd_self _ _ _) (show 1 < 2 ^ 24 by decide) (upd_upd _ _ _ _) ?_
      exact JoI.mk [nE x (both.take (both.length / 2)), nE y (both.drop (both.length / 2))] _ rfl (Nat.le_refl _) (q2 q) rfl rfl rfl
  rintro σ₄ ls₄ ⟨Y, ch', rfl, hY, hQ, l5, l7, l12⟩
  refine cut_freezeL l12 (upd_self _ _ _) ?_
  refine swps_at (del_upd (hb' _)) ?_
  refine c_ret hM (opt_of l5 (opt_of l7 ?_))
  sizeOf_list_dec
  have s1 := slice_len (xs := rowE (h' + 1) (L' ++ [nE x xc, nE y yc] ++ R')) (a := 0) (b := some (L'.length : Int))
  have s2 := slice_len (xs := rowE (h' + 1) (L' ++ [nE x xc, nE y yc] ++ R')) (a := (L'.length : Int) + 2) (b := none)
  rw [row_len8, List.length_append, List.length_append] at s1 s2
  have s3 : [nE x xc, nE y yc].length = 2 := rfl
  refine opt_of (add_l (by rw [row_len8]; unfold big; (first | lia | omega))) (opt_of l5 (opt_of l7 ?_))
  sizeOf_list_dec
  refine opt_of (add_l (by rw [List.length_append, row_len8]; unfold big; (first | lia | omega))) ?_
  rw [slice_mid (by show _ = (L'.length : Int) + 2; rfl)]; exact hQ
end

section
open PySem PySem.W PySem.Calls PyProof.Rows
set_option maxRecDepth 100000
set_option linter.unusedSimpArgs false
set_option linter.unusedVariables false
/-! drop_from -/
inductive dropS (xs : List V) (Q : Post) (σ : View)  : Prop
  | mk (w : Int) (B : Dct) (H : Nat) (top : T H) (k : Int) : xs = [.dct B, .int w, .int k] → Tr w B top → (∀ q ∈ B, Pv 3 q.2) → (∀ ch, Fin8 w (fun r => delRow r k) B top ch → Cd 100 ch → Q (.dct (unl B ch)) σ) → dropS xs Q σ
/-- a row of one entry: its block has been written -/
noncomputable def One (row : List V) (word : Str) (ch : Dct) : Prop := word = sBranch → ∀ k n, row = [.tup [.int k, .int n]] → n ∈ keysD ch
theorem one_two {h : Nat} {c : List (E h)} {word : Str} {ch : Dct} (hc : 2 ≤ c.length) : One (rowE h c) word ch := fun _ k n e => by
  have := congrArg List.length e
  rw [row_len8] at this
  rw [this] at hc; exact absurd hc (show ¬ 2 ≤ 1 by decide)
theorem one_mid {h : Nat} {L R : List (E (h + 1))} {x : Int} {both : List (E h)} {word : Str} {ch : Dct} (hx : x ∈ keysD ch) : One (rowE (h + 1) (L ++ [nE x both] ++ R)) word ch := fun _ k n e => by
  cases L with
  | nil =>
    have e : entE (h + 1) (nE x both) :: rowE (h + 1) R = [.tup [.int k, .int n]] := e
    have e2 : V.tup [.int (keyE (h + 1) (nE x both)), .int x] = .tup [.int k, .int n] := (List.cons.inj e).1
    cases e2; exact hx
  | cons l L =>
    have := congrArg List.length e
    rw [row_len8, List.length_append, List.length_append] at this
    have this : L.length + 1 + 1 + R.length = 1 := this
    exact absurd this (by (first | lia | omega))
theorem it_ref {σ : View} {a : Addr} {ch : Dct} {n : Int} (h : σ a = some (.dict false ch)) : itemV σ (.ref a) (.int n) = lookD n ch := by
  have e1 : seqOf σ (.ref a) = none := by show (match σ a with | some (.list _ xs) => some xs | _ => none) = _; rw [h]
  have e2 : dicOf σ (.ref a) = some ch := by show (match σ a with | some (.dict _ xs) => some xs | _ => none) = _; rw [h]
  show (match seqOf σ (.ref a) with | some xs => (idxOf n xs.length).bind fun j => xs[j]? | none => (dicOf σ (.ref a)).bind fun es => lookD n es) = _
  rw [e1, e2]; rfl
inductive DrI (w k : Int) (B : Dct) {H : Nat} (top : T H) (ns : List Int) (ps : List Nat) (a : Addr) (σ : View) (d : Nat) (σ' : View) (ls' : Ls) : Prop
  | mk (row word ch go) : Up w k (fun r => delRow r k) 1 0 B top ns ps d row word ch 0 go → One row word ch → Cd (2 * (H - d)) ch → σ' = σ.upd a (.dict false ch) → ls' 0 = some (.dct B) → ls' 1 = some (.int w) → ls' 3 = some (.tup [.lst (ns.map .int), .lst (ps.map natV)]) → ls' 4 = some (.lst (ns.map .int)) → ls' 5 = some (.lst row) → ls' 7 = some (.ref a) → ls' 8 = some (.str word) → DrI w k B top ns ps a σ d σ' ls'
inductive DrJ (w k : Int) (B : Dct) (H d : Nat) {h' : Nat} (t' : T (h' + 1)) (ns : List Int) (ps : List Nat) (a : Addr) (σ : View) (σ₃ : View) (ls₃ : Ls) : Prop
  | mk (c' ch' go') : Pn w (fun r => delRow r k) 1 0 B t'.2 c' ch' 0 go' → One (rowE (h' + 1) c') sBranch ch' → Cd (2 * (H - d)) ch' → σ₃ = σ.upd a (.dict false ch') → ls₃ 0 = some (.dct B) → ls₃ 1 = some (.int w) → ls₃ 3 = some (.tup [.lst (ns.map .int), .lst (ps.map natV)]) → ls₃ 4 = some (.lst (ns.map .int)) → ls₃ 5 = some (.lst (rowE (h' + 1) c')) → ls₃ 7 = some (.ref a) → DrJ w k B H d t' ns ps a σ σ₃ ls₃
inductive DrE (w k : Int) (B : Dct) {H : Nat} (top : T H) (a : Addr) (σ : View) (σ₃ : View) (ls₃ : Ls) : Prop
  | mk (ch') : Fin8 w (fun r => delRow r k) B top ch' → Cd 100 ch' → σ₃ = σ.upd a (.dict false ch') → ls₃ 0 = some (.dct B) → ls₃ 7 = some (.ref a) → DrE w k B top a σ σ₃ ls₃
theorem drop_ok (Φ : Spec) (hM : SpecMono Φ) (Gc : Nat → V) (hH0 : ∀ xs Q σ, halfS xs Q σ → Φ 0 xs Q σ) (hW : ∀ xs Q σ, wayS xs Q σ → Φ 5 xs Q σ) (hU : ∀ xs Q σ, unlS xs Q σ → Φ 9 xs Q σ) (hE : ∀ xs Q σ, entryS xs Q σ → Φ 10 xs Q σ) (hJ : ∀ xs Q σ, joinS xs Q σ → Φ 12 xs Q σ)
    {xs : List V} {Q : Post} {σ : View} (h : dropS xs Q σ) : xs.length = 3 ∧ swps Φ Gc m_drop_from (fun σ' _ => Q .none σ') Q σ (argLs xs) := by
  obtain ⟨w, B, H, top, k, rfl, tr, pB, h⟩ := h
  have hw3 := tr.hw
  have hw2 := tr.hw2
  have hH := high tr
  have hh := two_half hw3
  refine ⟨rfl, c_assign hM (fun d => ∃ ns ps, ∃ t : T 0, Way k top ns ps 0 t ∧ d = .tup [.lst (ns.map .int), .lst (ps.map natV)]) (hW _ _ _ ⟨w, B, H, top, k, rfl, tr, fun ns ps t W => ⟨rfl, ns, ps, t, W, rfl⟩⟩) ?_⟩
  rintro _ ⟨ns, ps, t, W, rfl⟩
  have hlen := W.len
  refine c_let hM (v := .lst (ns.map .int)) r2 ?_
  obtain ⟨r, er⟩ := W.last
  have hil := delRow_len (k := k) (row := rowE 0 t.2) (by have := W.ris tr.ris; rw [prs0, ← row0 t.2] at this; exact this)
  rw [row_len8] at hil
  have hmost := W.most tr
  refine c_let hM (v := .lst (delRow (rowE 0 t.2) k)) ?_ ?_
  · refine w_filt hM (xs := rowE 0 t.2) (fun v => !decide (keyOf v = k)) (cwp_e hM _ ?_) (by rw [row_len8]; unfold big; (first | lia | omega)) (fun v hv => cwp_e hM _ ?_) r2
    · sizeOf_list_dec
      refine opt_of (a := .int t.1) (by rw [er, List.map_append]; exact idx_last) ?_
      sizeOf_list_dec
      refine opt_of (W.look tr) ?_
      exact ⟨rfl, .inr rfl⟩
    · obtain ⟨k', s, rfl⟩ : ∃ k' s, v = V.tup [.int k', .str s] := (W.wf hw3 tr.root).1 v (row0 t.2 ▸ hv)
      sizeOf_list_dec
      exact r2
  refine cut_dict fun a ha => ?_
  refine c_let hM (v := .str sLeaf) r2 ?_
  refine c_for_dn hM (n := H) (DrI w k B top ns ps a σ) ?_ (by (first | lia | omega)) ?_ ?_ ?_
  · sizeOf_list_dec
    refine ⟨rfl, ?_⟩
    rw [List.length_map, hlen.1, ← hlen.2, show (((ps.length + 1 : Nat) : Int) - 1) = ((ps.length + 0 : Nat) : Int) by (first | lia | omega)]
  · refine ⟨_, _, [], [], .mk (h := 0) (c := delRow (rowE 0 t.2) k) W (by rw [← hlen.2]; rfl) (List.append_nil _).symm (List.append_nil _).symm (Pn.leaf (congrArg (fun r => delRow r k) (row0 t.2)) (del_wf fun x hx => (W.wf hw3 tr.root).1 x (row0 t.2 ▸ hx)) hil.1 hil.2) (Nat.le_refl _) rfl rfl,
      fun e => absurd e (by decide), ⟨.nil, fun q hq => (List.not_mem_nil hq).elim, Nat.zero_le _⟩, rfl, rfl, rfl, rfl, rfl, congrArg (fun l : List V => some (V.lst l)) (row0 (delRow (rowE 0 t.2) k : List V)).symm, rfl, rfl⟩
  · rintro d hd σ' ls' ⟨row, word, ch, go, U, hone, hc, rfl, l0, l1, l3, l4, l5, l7, l8⟩
    cases U.step tr del_mid with | @mk n1 n2 p1 p2 h' t' t c W1 hp1 hns hps hn hm hrow hword e hwf en1 en0 ep hs cx =>
    subst hrow hword
    have hlo := hn.lo
    have hhi := hn.hi
    have hw1 : halfI w ≤ t.2.length := hwf.1.1
    have hw4 : (t.2.length : Int) ≤ w := hwf.1.2
    have hmost' := W1.most tr
    have h2' := (W1.wf hw3 tr.root).2.1 (Nat.succ_ne_zero _)
    have hlen2 := hc.len
    refine c_let hM (v := .lst (rowE (h' + 1) t'.2)) (opt_of l0 (opt_of l4 (opt_of (idx_at (k := d) (by (first | lia | omega)) (map_at en0)) (opt_of (W1.look tr) r2)))) ?_
    refine c_let hM (v := .int ((atF (h' + 1) t'.2 k : Nat) : Int)) (opt_of l3 (opt_of (idx_at (k := d) (by (first | lia | omega)) (map_at ep)) r2)) ?_
    refine swps_cut hM (I := DrJ w k B H d t' ns ps a σ) ?_ ?_
    · by_cases q : halfI w ≤ c.length
      · have hcn : c ≠ [] := ne_of_len (by (first | lia | omega))
        refine c_ite hM (r := .nil) true (opt_of l5 (opt_of l1 (hH0 _ _ _ ⟨w, rfl, And.intro rfl (decide_eq_true (by rw [row_len8]; exact q))⟩))) ?_
        refine c_setd hM (v := blkT h' c) (opt_of l8 (opt_of l5 r2)) (opt_of l7 r2) (opt_of l4 (opt_of (idx_at (k := d + 1) rfl (map_at en1)) r2)) (upd_self _ _ _) (by unfold big; (first | lia | omega)) (upd_upd _ _ _ _) ?_
        refine c_let hM (r := .nil) (v := .lst (rowE (h' + 1) (t'.2.take (atF (h' + 1) t'.2 k) ++ [nE t.1 c] ++ t'.2.drop (atF (h' + 1) t'.2 k + 1)))) ?_ ?_
        · sizeOf_list_dec
          refine opt_of l4 ?_
          sizeOf_list_dec
          refine opt_of (idx_at (k := d + 1) rfl (map_at en1)) (opt_of l5 ?_)
          obtain ⟨kk, y, rr, e1, e2⟩ := ent_cons hcn hn.wf t.1
          refine hE _ _ _ ⟨_, kk, y, rr, _, rfl, .inr (by rw [e1]), ?_⟩
          rw [e2]
          sizeOf_list_dec
          have s1 := slice_len (xs := rowE (h' + 1) t'.2) (a := 0) (b := some ((atF (h' + 1) t'.2 k : Nat) : Int))
          have s2 := slice_len (xs := rowE (h' + 1) t'.2) (a := ((atF (h' + 1) t'.2 k : Nat) : Int) + 1) (b := none)
          rw [row_len8] at s1 s2
          refine opt_of (add_l (by show _ + 1 ≤ _; unfold big; (first | lia | omega))) ?_
          sizeOf_list_dec
          refine opt_of (add_l (by rw [List.length_append]; show _ + 1 + _ ≤ _; unfold big; (first | lia | omega))) ?_
          exact ⟨rfl, by rw [← slice_row (y := [nE t.1 c])]; rfl⟩
        have hk := hn.keep cx q (by (first | lia | omega))
        rw [← hs] at hk
        refine DrJ.mk _ _ go hk (one_two ?_) ((hc.put (pv_blk hn.wf)).mono (by (first | lia | omega))) rfl l0 l1 l3 l4 rfl l7
        have := congrArg List.length hs
        rw [List.length_append, List.length_append] at this ⊢
        show 2 ≤ _ + 1 + _
        have this : _ = _ + 1 + _ := this
        (first | lia | omega)
      · refine c_ite hM (r := .nil) false (opt_of l5 (opt_of l1 (hH0 _ _ _ ⟨w, rfl, And.intro rfl (decide_eq_false (by rw [row_len8]; exact q))⟩))) ?_
        have hb' : ∀ {z : List (E h')}, halfI w ≤ z.length → 2 ≤ z.length := fun h1 => by (first | lia | omega)
        cases hn.nb hw3 h2' e cx (Int.not_le.mp q) with
        | @left L' l lc hX hi hl2 j =>
          have hsz := congrArg List.length hX
          rw [List.length_append, List.length_append] at hsz
          have hsz : t'.2.length = L'.length + 2 + (t'.2.drop (atF (h' + 1) t'.2 k + 1)).length := hsz
          refine c_any hM (r := .nil) (opt_of l0 (opt_of l7 (opt_of l1 (opt_of l8 (opt_of l5 ?_)))))
          sizeOf_list_dec
          refine hJ _ _ _ ⟨w, B, a, h', c, lc ++ c, L', _, l, t.1, lc, t.2, ((atF (h' + 1) t'.2 k : Nat) : Int), ch, congrArg (fun l => [V.dct B, .ref a, .int w, .str (kindT h'), .lst (rowE h' c), .lst (rowE (h' + 1) l), .int ((atF (h' + 1) t'.2 k : Nat) : Int)]) hX, .inl ⟨by rw [← hi]; rfl, rfl, cx.inB (l, blkT h' lc) (by rw [j.eX, bksF_app, bksF_app]; exact List.mem_append.mpr (.inl (List.mem_append.mpr (.inr (.head _)))))⟩, upd_self _ _ _, by (first | lia | omega), j.wf, hb' hl2.1, by (first | lia | omega), by (first | lia | omega), by (first | lia | omega), fun q1 => ?_, fun q1 => ?_⟩
          · have hk := hn.one cx j (Nat.le_refl 1) hl2.1 q1
            rw [← hs] at hk
            exact ⟨_, _, _, hk, one_mid (mem_keys_put.mpr (.inr (mem_keys_put.mpr (.inl rfl)))), ((hc.put (pv_blk j.wf)).put .none).mono (by (first | lia | omega)), by rw [upd_upd], l0, l1, l3, l4, rfl, l7⟩
          · have hk := hn.two cx j q1 hl2.2
            rw [← hs] at hk
            refine ⟨_, _, _, hk, one_two ?_, ((hc.put (pv_blk fun x hx => j.wf x (List.mem_of_mem_take hx))).put (pv_blk fun x hx => j.wf x (List.mem_of_mem_drop hx))).mono (by (first | lia | omega)), by rw [upd_upd], l0, l1, l3, l4, rfl, l7⟩
            rw [List.length_append, List.length_append]; show 2 ≤ _ + 2 + _; (first | lia | omega)
        | @right r rc R' hX hi hl2 j =>
          have hsz := congrArg List.length hX
          have hsz : t'.2.length = R'.length + 2 := by rw [hsz, List.length_append, Nat.add_comm]; rfl
          refine c_any hM (r := .nil) (opt_of l0 (opt_of l7 (opt_of l1 (opt_of l8 (opt_of l5 ?_)))))
          sizeOf_list_dec
          refine hJ _ _ _ ⟨w, B, a, h', c, c ++ rc, [], R', t.1, r, t.2, rc, ((atF (h' + 1) t'.2 k : Nat) : Int), ch, congrArg (fun l => [V.dct B, .ref a, .int w, .str (kindT h'), .lst (rowE h' c), .lst (rowE (h' + 1) l), .int ((atF (h' + 1) t'.2 k : Nat) : Int)]) hX, .inr ⟨by rw [hi]; rfl, rfl, rfl, cx.inB (r, blkT h' rc) (by rw [j.eX, bksF_app, bksF_app]; exact List.mem_append.mpr (.inl (List.mem_append.mpr (.inr ((two_bks (x := t.1) (y := r) (c1 := t.2) (c2 := rc)).mem_iff.mp (.head _))))))⟩, upd_self _ _ _, by (first | lia | omega), j.wf, hb' hl2.1, by (first | lia | omega), Nat.zero_le _, by (first | lia | omega), fun q1 => ?_, fun q1 => ?_⟩
          · have hk := hn.one cx j (Nat.le_refl 1) hl2.1 q1
            rw [← hs] at hk
            exact ⟨_, _, _, hk, one_mid (mem_keys_put.mpr (.inr (mem_keys_put.mpr (.inl rfl)))), ((hc.put (pv_blk j.wf)).put .none).mono (by (first | lia | omega)), by rw [upd_upd], l0, l1, l3, l4, rfl, l7⟩
          · have hk := hn.two cx j q1 hl2.2
            rw [← hs] at hk
            refine ⟨_, _, _, hk, one_two ?_, ((hc.put (pv_blk fun x hx => j.wf x (List.mem_of_mem_take hx))).put (pv_blk fun x hx => j.wf x (List.mem_of_mem_drop hx))).mono (by (first | lia | omega)), by rw [upd_upd], l0, l1, l3, l4, rfl, l7⟩
            rw [List.length_append, List.length_append]; show 2 ≤ _ + 2 + _; (first | lia | omega)
    rintro σ₃ ls₃ ⟨c', ch', go', hn', hone', hc', rfl, l0, l1, l3, l4, l5, l7⟩
    refine c_let hM (r := .nil) (v := .str sBranch) ⟨rfl, rfl⟩ ?_
    exact ⟨_, _, ch', go', .mk W1 hp1 hns hps hn' (Nat.zero_le _) rfl rfl, hone', hc', rfl, l0, l1, l3, l4, l5, l7, rfl⟩
  · rintro σ' ls' ⟨row, word, ch, go, U, hone, hc, rfl, l0, l1, l3, l4, l5, l7, l8⟩
    obtain ⟨c, hn, hm, rfl, rfl⟩ := U.end_
    have hlen2 := hc.len
    have hc1 : Cd 30 (putD 0 (blkT H c) ch) := (hc.put (pv_blk hn.wf)).mono (by (first | lia | omega))
    refine c_setd hM (v := blkT H c) (opt_of l8 (opt_of l5 r2)) (opt_of l7 r2) r2 (upd_self _ _ _) (by unfold big; (first | lia | omega)) (upd_upd _ _ _ _) ?_
    refine swps_cut hM (I := DrE w k B top a σ) ?_ ?_
    · cases H with
      | zero => exact c_ite hM (r := .nil) false (opt_of l8 (by sizeOf_list_dec; rw [kind_br.1]; exact r2)) (DrE.mk _ (hn.top3 tr.root tr.nd tr.inB fun q => absurd rfl q) (hc1.mono (by decide)) rfl l0 l7)
      | succ H =>
        by_cases q : c.length = 1
        · obtain ⟨x, rfl⟩ := List.length_eq_one_iff.mp q
          obtain ⟨n, cc⟩ := (x : T H)
          obtain ⟨f1, f2⟩ := hn.top4 (b0 := blkT (H + 1) [nE n cc]) hw3 tr.root tr.nd tr.inB (hone rfl _ n rfl)
          have hc2 := hc1.put (j := 0) (pv_blk (hn.wf _ (.head _)).2)
          refine c_ite hM (r := .nil) true (opt_of l8 (by sizeOf_list_dec; rw [kind_br.2]; exact opt_of l5 r2)) ?_
          refine c_let hM (v := .int n) (opt_of l5 r2) ?_
          refine c_setd hM (v := blkT H cc) (opt_of l7 (opt_of (a := blkT H cc) (by show itemV _ (.ref a) (.int n) = _; exact (it_ref (upd_self _ _ _)).trans f1) r2)) (opt_of l7 r2) r2 (upd_self _ _ _) (Nat.lt_of_le_of_lt hc1.len (by decide)) (upd_upd _ _ _ _) ?_
          refine c_setd hM (r := .nil) (v := .none) r2 (opt_of l7 r2) r2 (upd_self _ _ _) (Nat.lt_of_le_of_lt hc2.len (by decide)) (upd_upd _ _ _ _) ?_
          exact DrE.mk _ f2 ((hc2.put .none).mono (by decide)) rfl l0 l7
        · exact c_ite hM (r := .nil) false (opt_of l8 (by sizeOf_list_dec; rw [kind_br.2]; exact opt_of l5 (And.intro rfl (decide_eq_false (by rw [row_len8]; (first | lia | omega)))))) (DrE.mk _ (hn.top3 tr.root tr.nd tr.inB fun _ => q) (hc1.mono (by decide)) rfl l0 l7)
    rintro σ₃ ls₃ ⟨ch', hfin, hc', rfl, l0, l7⟩
    refine cut_freezeD l7 (upd_self _ _ _) ?_
    refine swps_at (del_upd ha) ?_
    have hcl := hc'.len
    exact c_ret hM (opt_of l0 (hU _ _ _ ⟨B, ch', rfl, pB, hc'.pv, hc'.nd, by (first | lia | omega), h ch' hfin hc'⟩))
end

section
open PySem PySem.W PySem.Calls PyProof.Rows
set_option maxRecDepth 100000
set_option linter.unusedSimpArgs false
set_option linter.unusedVariables false
inductive widS (xs : List V) (Q : Post) (σ : View)  : Prop
  | mk (c) : xs = [.int c] → (∀ w, 3 ≤ w → w ≤ 64 → Q (.int w) σ) → widS xs Q σ
theorem width_ok (Φ : Spec) (hM : SpecMono Φ) (Gc : Nat → V) {xs : List V} {Q : Post} {σ : View} (h : widS xs Q σ) : xs.length = 1 ∧ swps Φ Gc m_law_width_by (fun σ' _ => Q .none σ') Q σ (argLs xs) := by
  obtain ⟨c, rfl, h⟩ := h
  refine ⟨rfl, ?_⟩
  skip
  skip
  by_cases q : c % 8 = 7
  · refine c_ite_ret hM ?_ ?_
    · skip
      exact ⟨rfl, decide_eq_true q⟩
    · skip
      exact h _ (by (first | lia | omega)) (by (first | lia | omega))
  · refine c_guard hM ?_ ?_
    · skip
      exact ⟨rfl, decide_eq_false q⟩
    refine c_ret hM ?_
    skip
    exact h _ (by (first | lia | omega)) (by (first | lia | omega))
/-! whole, value_by, held, good -/
inductive wholS (xs : List V) (Q : Post) (σ : View)  : Prop
  | mk (i) : xs = [.int i] → Q (.bool true) σ → wholS xs Q σ
theorem whol_ok (Φ : Spec) (hM : SpecMono Φ) (Gc : Nat → V) {xs : List V} {Q : Post} {σ : View} (h : wholS xs Q σ) : xs.length = 1 ∧ swps Φ Gc m_law_whole (fun σ' _ => Q .none σ') Q σ (argLs xs) := by
  obtain ⟨i, rfl, h⟩ := h
  refine ⟨rfl, c_ret hM ?_⟩
  sizeOf_list_dec
  refine opt_map (ty_int (v := .int i) rfl) ?_
  sizeOf_list_dec
  exact opt_map (ty_bool (v := .int i) rfl) h
/-- texts of one sign each -/
noncomputable def Sgn (v : V) : Prop := ∃ s : Str, v = .str s ∧ s.length = 1
theorem sgn_strs : ∀ {l : List V}, (∀ x ∈ l, Sgn x) → ∃ ss, strs? l = some ss ∧ (ss.map (·.length)).sum = l.length
  | [], _ => ⟨[], rfl, rfl⟩
  | x :: l, h => by
    obtain ⟨s, rfl, hs⟩ := h x (.head _)
    obtain ⟨ss, e, hl⟩ := sgn_strs fun y hy => h y (.tail _ hy)
    exact ⟨s :: ss, by show (strs? l).map _ = _; rw [e]; rfl, by show s.length + (ss.map (·.length)).sum = l.length + 1; rw [hl, hs, Nat.add_comm]⟩
theorem add_s {σ : View} {a b : Str} (h : a.length + b.length ≤ big) : addV σ (.str a) (.str b) = some (.str (a ++ b)) := if_pos h
noncomputable def tA : Str := Str.ofString " !\"#$&'()*+,-./0123456789:;<=>?@ABCDEFGHIJKLMNOPQRSTUVWXYZ[\\]^_`"
noncomputable def tB : Str := Str.ofString "abcdefghijklmnopqrstuvwxyz{|}~"
theorem tAB : tA.length + tB.length ≤ big ∧ (tA ++ tB).cps.toList.length = 94 := by decide +kernel
inductive vbyS (xs : List V) (Q : Post) (σ : View)  : Prop
  | mk (c) : xs = [.int c] → (∀ s : Str, Q (.str s) σ) → vbyS xs Q σ
theorem vby_ok (Φ : Spec) (hM : SpecMono Φ) (Gc : Nat → V) {xs : List V} {Q : Post} {σ : View} (h : vbyS xs Q σ) : xs.length = 1 ∧ swps Φ Gc m_law_value_by (fun σ' _ => Q .none σ') Q σ (argLs xs) := by
  obtain ⟨c, rfl, h⟩ := h
  refine ⟨rfl, c_let hM (v := .str tA) r2 ?_⟩
  refine c_assign hM (fun d => ∃ s : Str, d = .str s ∧ s.cps.toList.length = 94) ?_ ?_
  · refine opt_of rfl ?_
    show opt (addV σ (.str tA) (.str tB)) (fun d => σ = σ ∧ ∃ s : Str, d = .str s ∧ s.cps.toList.length = 94)
    exact opt_of (add_s tAB.1) ⟨rfl, _, rfl, tAB.2⟩
  rintro _ ⟨sg, rfl, hsg⟩
  refine c_assign hM (fun d => ∃ n : Int, 0 ≤ n ∧ d = .int n) ?_ ?_
  · skip
    refine opt_if (mulFits_right (by decide) (by decide)) ?_
    skip
    exact ⟨rfl, _, Int.emod_nonneg _ (by decide), rfl⟩
  rintro _ ⟨n, hn, rfl⟩
  refine c_assign hM (fun d => ∃ m : Nat, m ≤ 61 ∧ d = .int m) ?_ ?_
  · skip
    exact ⟨rfl, (n % 5).toNat, by (first | lia | omega), by congr 1; (first | lia | omega)⟩
  rintro _ ⟨m0, hm0, rfl⟩
  refine c_if_assign hM (fun d => ∃ m : Nat, m ≤ 61 ∧ d = .int m) ?_ ?_
  · sizeOf_list_dec
    cases decide (n / 5 % 3 = 1) with
    | true =>
      refine ⟨rfl, ?_⟩
      sizeOf_list_dec
      exact ⟨rfl, (n / 15 % 61).toNat, by (first | lia | omega), by congr 1; (first | lia | omega)⟩
    | false => exact ⟨rfl, m0, hm0, rfl⟩
  rintro _ ⟨m, hm, rfl⟩
  refine c_assign hM (fun d => ∃ t : Int, 0 ≤ t ∧ t ≤ 7 ∧ d = .int t) ?_ ?_
  · sizeOf_list_dec
    have hq : n / 915 % 3 = 0 ∨ n / 915 % 3 = 1 ∨ n / 915 % 3 = 2 := by (first | lia | omega)
    rcases hq with e | e | e <;> rw [e]
    · exact ⟨rfl, 0, by decide, by decide, rfl⟩
    · exact ⟨rfl, 1, by decide, by decide, rfl⟩
    · exact ⟨rfl, 7, by decide, by decide, rfl⟩
  rintro _ ⟨t, t0, t7, rfl⟩
  refine c_ret hM ⟨⟨_, rfl⟩, ?_⟩
  sizeOf_list_dec
  refine w_comp_rP hM (n := m) Sgn ⟨rfl, rfl⟩ (by unfold big; (first | lia | omega)) (fun j hj => cwp_e hM _ ?_) fun l hl hP => ?_
  · skip
    refine opt_if (mulFits_right (by (first | lia | omega)) (by (first | lia | omega))) ?_
    sizeOf_list_dec
    have g0 := Int.emod_nonneg (n / 2745 + t * (j : Int)) (show (94 : Int) ≠ 0 by decide)
    have g1 := Int.emod_lt_of_pos (n / 2745 + t * (j : Int)) (show (0 : Int) < 94 by decide)
    generalize (n / 2745 + t * (j : Int)) % 94 = z at g0 g1
    have hz : z.toNat < sg.cps.toList.length := by rw [hsg]; (first | lia | omega)
    refine opt_of (a := .str ⟨#[sg.cps.toList[z.toNat]]⟩) ?_ ⟨rfl, _, rfl, rfl⟩
    show (idxOf z sg.length).bind (fun j => sg.cps.toList[j]?.map fun c => V.str ⟨#[c]⟩) = _
    rw [idxOf_pos g0 (by show z < (sg.cps.size : Int); rw [← Array.length_toList, hsg]; exact g1)]
    show sg.cps.toList[z.toNat]?.map _ = _
    rw [List.getElem?_eq_getElem hz]; rfl
  · obtain ⟨ss, e1, e2⟩ := sgn_strs hP
    refine opt_of (a := .str ⟨(ss.map (·.cps.toList)).flatten.toArray⟩) ?_ (h _)
    show (strs? l).bind _ = _
    rw [e1]
    exact if_pos ⟨by decide +kernel, by rw [e2, hl]; unfold big; (first | lia | omega)⟩
theorem w_filtM {Φ : Spec} (hM : SpecMono Φ) {G : Nat → V} {ls : Ls} {e : ME} {x : Nat} {t : ME} {xs : List V} {Q : Post} {σ : View} (p : V → Bool) (he : ewp Φ G ls e (fun d σ' => σ' = σ ∧ d = .lst xs) σ) (hx : xs.length ≤ big)
    (h : ∀ v ∈ xs, ewp Φ G (ls.set x v) t (fun d σ' => σ' = σ ∧ d = .bool (p v)) σ) (hQ : ∀ a, σ a = none → Q (.ref a) (σ.upd a (.list false (xs.filter p)))) : ewp Φ G ls (.comp true (.var x) (.one x) (.seq e) (.cons t .nil)) Q σ := by
  refine ewp_mono (Q' := fun d σ' => itWp 0 [d] _ σ') hM e he ?_
  rintro d σ' ⟨e1, rfl⟩
  cases e1
  rw [it_lst]
  have key := comp_fm (Φ := Φ) (G := G) (ls := ls) (σ := σ) hM (elt := .var x) (x := x) (ifs := .cons t .nil) (xs := xs) (u := [.lst xs]) (Q := fun d σ₂ => ∃ l, d = .lst l ∧ ∀ a, σ₂ a = none → Q (.ref a) (σ₂.upd a (.list false l))) p (fun v => v) rfl rfl hx
    (fun v hv => ewp_mono hM t (h v hv) fun d σ₂ hd => by
      obtain ⟨rfl, rfl⟩ := hd
      refine ⟨p v, rfl, ?_⟩
      cases q : p v with
      | true => exact ⟨rfl, rfl, fun _ => ⟨v, if_pos rfl, rfl, rfl⟩⟩
      | false => exact ⟨rfl, rfl, fun h => ff h⟩) ⟨_, rfl, by rw [List.map_id']; exact hQ⟩
  obtain ⟨k1, I, k2, k3, k4⟩ := key
  refine ⟨k1, I, k2, k3, fun acc σ₂ hI => ?_⟩
  have := k4 acc σ₂ hI
  rw [if_neg (by decide)] at this
  obtain ⟨l, el, hl⟩ := this
  cases el
  exact hl
inductive heldS (xs : List V) (Q : Post) (σ : View)  : Prop
  | mk (row k v) : xs = [.lst row, .int k, v] → Ents row → row.length ≤ 2000 → ((v = .none ∧ Q (.lst (row.filter (fun p => decide (keyOf p < k)) ++ row.filter (fun p => decide (k < keyOf p)))) σ) ∨ (∃ s, v = .str s ∧ Q (.lst (insRow row k v)) σ)) → heldS xs Q σ
inductive HeI (row : List V) (k : Int) (s : Str) (a : Addr) (σ : View) (σ₃ : View) (ls₃ : Ls) : Prop
  | mk : σ₃ = σ.upd a (.list false (row.filter (fun p => decide (keyOf p < k)) ++ [.tup [.int k, .str s]])) → ls₃ 0 = some (.lst row) → ls₃ 1 = some (.int k) → ls₃ 3 = some (.ref a) → HeI row k s a σ σ₃ ls₃
theorem held_ok (Φ : Spec) (hM : SpecMono Φ) (Gc : Nat → V) {xs : List V} {Q : Post} {σ : View} (h : heldS xs Q σ) : xs.length = 3 ∧ swps Φ Gc m_law_held (fun σ' _ => Q .none σ') Q σ (argLs xs) := by
  obtain ⟨row, k, v, rfl, he, hl, h⟩ := h
  have hf1 := List.length_filter_le (fun v => decide (keyOf v < k)) row
  have hf2 := List.length_filter_le (fun v => decide (k < keyOf v)) row
  refine ⟨rfl, c_any hM ?_⟩
  refine w_filtM hM (xs := row) (fun v => decide (keyOf v < k)) (cwp_e hM _ r2) (by unfold big; (first | lia | omega)) (fun p hp => cwp_e hM _ ?_) fun a ha => ?_
  · obtain ⟨y, e⟩ := he p hp
    skip
    generalize keyOf p = kp at e ⊢
    subst e
    exact r2
  have last : ∀ {l : List V} {σ₃ : View} {ls₃ : Ls}, l.length ≤ 2001 → σ₃ = σ.upd a (.list false l) → ls₃ 0 = some (.lst row) → ls₃ 1 = some (.int k) → ls₃ 3 = some (.ref a) → Q (.lst (l ++ row.filter (fun p => decide (k < keyOf p)))) σ →
      swps Φ Gc (ss [.freeze 3, .ret (.op .add (es [(.var 3), (.comp false (.var 4) (.one 4) (.seq (.var 0)) (es [(.op .gt (es [(.op .item (es [(.var 4), (.lit (.int 0))])), (.var 1)]))]))]))]) (fun σ' _ => Q .none σ') Q σ₃ ls₃ := fun {l σ₃ ls₃} hl' e l0 l1 l3 hQ => by
    subst e
    refine cut_freezeL l3 (upd_self _ _ _) ?_
    refine swps_at (del_upd ha) ?_
    refine c_ret hM ?_
    sizeOf_list_dec
    refine w_filt hM (xs := row) (fun v => decide (k < keyOf v)) (cwp_e hM _ (opt_of l0 ⟨rfl, .inl rfl⟩)) (by unfold big; (first | lia | omega)) (fun p hp => cwp_e hM _ ?_) ?_
    · obtain ⟨y, e⟩ := he p hp
      generalize keyOf p = kp at e ⊢
      subst e
      exact opt_of l1 r2
    · exact opt_of (add_l (by unfold big; (first | lia | omega))) hQ
  rcases h with ⟨rfl, h⟩ | ⟨s, rfl, h⟩
  · refine c_guard hM r2 ?_
    exact last (by (first | lia | omega)) rfl rfl rfl rfl h
  · refine swps_cut hM (I := HeI row k s a σ) ?_ ?_
    · refine ctwp_t hM ?_
      skip
      refine c_expr hM (r := .nil) ⟨⟨a, false, _, rfl, upd_self _ _ _⟩, ?_⟩
      skip
      exact ⟨_, upd_self _ _ _, by unfold big; (first | lia | omega), by rw [upd_upd], rfl, rfl, rfl⟩
    rintro σ₃ ls₃ ⟨rfl, l0, l1, l3⟩
    exact last (by rw [List.length_append]; show _ + 1 ≤ _; (first | lia | omega)) rfl l0 l1 l3 h
end

section
open PySem PySem.W PySem.Calls PyProof.Rows
set_option maxRecDepth 100000
set_option linter.unusedSimpArgs false
set_option linter.unusedVariables false
/-! good -/
theorem it_enmT {σ : View} {xs : List V} {Qi : List V → List V → View → Prop} : itWp 2 [.tup xs] Qi σ ↔ Qi (xs.mapIdx enumV) [.tup xs] σ := ⟨fun hx => by obtain ⟨_, e, h⟩ := hx; exact by have e : xs.mapIdx enumV = _ := Option.some.inj e; exact e ▸ h, fun h => ⟨_, rfl, h⟩⟩
theorem c_for_et {Φ : Spec} {G : Nat → V} {ls : Ls} {Q : View → Ls → Prop} {R : Post} {σ : View} {r : MSs} (hM : SpecMono Φ) {i j : Nat} {e : ME} {b : MSs} {xs : List V} (I : Nat → View → Ls → Prop) (he : cwp Φ G ls e (fun d σ' => σ' = σ ∧ d = .tup xs) σ) (hI : I 0 σ ls)
    (hs : ∀ k v, xs[k]? = some v → ∀ σ₂ ls₂, I k σ₂ ls₂ → swps Φ G b (fun σ₃ ls₃ => I (k + 1) σ₃ ls₃) R σ₂ ((ls₂.set i (.int (k : Nat))).set j v)) (hk : ∀ σ₂ ls₂, I xs.length σ₂ ls₂ → swps Φ G r Q R σ₂ ls₂) : swps Φ G (.cons (.for1 (.two i j) (.enum (.cons e .nil)) b) r) Q R σ ls := by
  refine ewp_mono (Q' := fun d σ' => itWp 2 [d] (fun xs u σ₁ => _) σ') hM e (cwp_e hM e he) ?_
  rintro d σ' ⟨e1, e2⟩
  subst e1; subst e2
  rw [it_enmT]
  refine ⟨I, hI, fun k v σ₂ ls₂ hv h => ?_, fun σ₂ ls₂ h => ?_⟩
  · rw [List.getElem?_mapIdx, Option.map_eq_some_iff] at hv
    obtain ⟨x, hx, rfl⟩ := hv
    exact hs k x hx σ₂ ls₂ h
  · rw [List.length_mapIdx] at h; exact hk σ₂ ls₂ h
inductive goodS (xs : List V) (Q : Post) (σ : View)  : Prop
  | mk (w : Int) (h : Nat) (c : List (E h)) (lo hi : Int) : xs = [blkT h c, .int lo, .int hi] → (∀ x ∈ c, WfE w h x) → Ris (rowE h c) → lo ≤ c.length → (c.length : Int) ≤ hi → Q (.bool true) σ → goodS xs Q σ
/-- what an entry's second part is, by its block's kind -/
theorem ent_kind {w : Int} : ∀ {h : Nat} {x : E h}, WfE w h x → ∃ y, entE h x = .tup [.int (keyE h x), y] ∧ ((kindT h = sLeaf ∧ ∃ s, y = .str s) ∨ (kindT h = sBranch ∧ ∃ i, y = .int i))
  | 0, _, ⟨k, s, e⟩ => ⟨.str s, by cases e; rfl, .inl ⟨rfl, s, rfl⟩⟩
  | _ + 1, _, _ => ⟨_, rfl, .inr ⟨rfl, _, rfl⟩⟩
theorem good_ok (Φ : Spec) (hM : SpecMono Φ) (Gc : Nat → V) (hW : ∀ xs Q σ, wholS xs Q σ → Φ 15 xs Q σ) {xs : List V} {Q : Post} {σ : View} (h : goodS xs Q σ) : xs.length = 3 ∧ swps Φ Gc m_law_good (fun σ' _ => Q .none σ') Q σ (argLs xs) := by
  obtain ⟨w, h', c, lo, hi, rfl, hf, hr, hlo, hhi, h⟩ := h
  have hk2 : kindT h' = sLeaf ∨ kindT h' = sBranch := by cases h' <;> first | exact .inl rfl | exact .inr rfl
  refine ⟨rfl, c_guard hM ?_ ?_⟩
  · sizeOf_list_dec
    refine opt_map (ty_tup (v := blkT h' c) rfl) ?_
    unfold blkT blkV
    sizeOf_list_dec
    refine opt_map (ty_tup (v := .tup (rowE h' c)) rfl) ?_
    exact r2
  refine c_guard hM ?_ ?_
  · unfold blkT blkV
    sizeOf_list_dec
    refine opt_map (ty_str (v := .str (kindT h')) rfl) ?_
    sizeOf_list_dec
    have hin : inV σ (.str (kindT h')) (.tup [.str (Str.ofString "leaf"), .str (Str.ofString "branch")]) = some true := by
      show some _ = _
      congr 1
      rcases hk2 with e | e <;> rw [e] <;> decide +kernel
    refine opt_map hin ?_
    sizeOf_list_dec
    rw [row_len8, decide_eq_true hlo]
    skip
    rw [decide_eq_true hhi]
    exact r2
  refine c_for_et hM (xs := rowE h' c) (fun k σ' ls' => σ' = σ ∧ ls' 0 = some (blkT h' c)) ?_ r2 ?_ ?_
  · unfold blkT blkV
    skip
    exact r2
  · rintro j v hv σ' ls' ⟨rfl, l0⟩
    obtain ⟨x, hx, rfl⟩ := Option.map_eq_some_iff.mp ((List.getElem?_map ..).symm.trans hv)
    obtain ⟨y, ey, hy⟩ := ent_kind (hf x (List.mem_iff_getElem?.mpr ⟨j, hx⟩))
    have hkx : keyOf (entE h' x) = keyE h' x := key_ent
    rw [ey] at hv hkx ⊢
    have l0' : ((ls'.set 3 (.int (j : Nat))).set 4 (.tup [.int (keyE h' x), y])) 0 = some (.tup [.str (kindT h'), .tup (rowE h' c)]) := l0
    refine c_guard hM ?_ ?_
    · sizeOf_list_dec
      refine opt_map (ty_tup (v := .tup [.int (keyE h' x), y]) rfl) ?_
      skip
      exact hW _ _ _ ⟨_, rfl, rfl, rfl⟩
    refine c_guard hM ?_ ?_
    · sizeOf_list_dec
      cases j with
      | zero => exact r2
      | succ j =>
        rw [decide_eq_true (show (0 : Int) < ((j + 1 : Nat) : Int) by (first | lia | omega))]
        have hj : j < (rowE h' c).length := Nat.lt_of_succ_lt (List.getElem?_eq_some_iff.mp hv).1
        have e2 : (rowE h' c)[j]? = some (rowE h' c)[j] := List.getElem?_eq_getElem hj
        have hlt : keyOf (rowE h' c)[j] < keyE h' x := by
          rw [← hkx, ← (List.getElem?_eq_some_iff.mp hv).2]
          have := List.pairwise_iff_getElem.mp hr j (j + 1) (by rw [List.length_map]; exact hj) (by rw [List.length_map]; exact (List.getElem?_eq_some_iff.mp hv).1) (Nat.lt_succ_self j)
          rw [List.getElem_map, List.getElem_map] at this; exact this
        obtain ⟨z, ez⟩ := ents_row hf _ (List.getElem_mem hj)
        generalize (rowE h' c)[j] = p at e2 hlt ez
        generalize keyOf p = kp at hlt ez
        subst ez
        sizeOf_list_dec
        refine opt_of l0' ?_
        sizeOf_list_dec
        refine opt_of (idx_at (k := j) (by (first | lia | omega)) e2) ?_
        sizeOf_list_dec
        exact ⟨rfl, decide_eq_false (Int.not_le.mpr hlt)⟩
    refine c_guard hM ?_ ?_
    · refine opt_of l0' ?_
      sizeOf_list_dec
      rcases hy with ⟨e1, s, rfl⟩ | ⟨e1, i, rfl⟩
      · rw [e1, decide_eq_true (show sLeaf = Str.ofString "leaf" from rfl)]
        sizeOf_list_dec
        exact opt_map (ty_str (v := .str s) rfl) r2
      · rw [e1, show decide (sBranch = Str.ofString "leaf") = false by decide +kernel]
        exact r2
    refine c_guard hM (r := .nil) ?_ ⟨rfl, l0⟩
    refine opt_of l0' ?_
    sizeOf_list_dec
    rcases hy with ⟨e1, s, rfl⟩ | ⟨e1, i, rfl⟩
    · rw [e1, show decide (sLeaf = Str.ofString "branch") = false by decide +kernel]
      exact r2
    · rw [e1, decide_eq_true (show sBranch = Str.ofString "branch" from rfl)]
      skip
      exact hW _ _ _ ⟨_, rfl, rfl, rfl⟩
  · rintro σ' ls' ⟨rfl, l0⟩
    exact c_ret hM h
end

section
open PySem PySem.W PySem.Calls PyProof.Rows
set_option maxRecDepth 100000
set_option linter.unusedSimpArgs false
set_option linter.unusedVariables false
/-! row_of -/
theorem c_for_rv {Φ : Spec} {G : Nat → V} {ls : Ls} {Q : View → Ls → Prop} {R : Post} {σ : View} {r : MSs} (hM : SpecMono Φ) {i : Nat} {e : ME} {b : MSs} {xs : List V} (I : Nat → View → Ls → Prop) (he : cwp Φ G ls e (fun d σ' => σ' = σ ∧ d = .tup xs) σ) (hI : I 0 σ ls)
    (hs : ∀ k v, xs.reverse[k]? = some v → ∀ σ₂ ls₂, I k σ₂ ls₂ → swps Φ G b (fun σ₃ ls₃ => I (k + 1) σ₃ ls₃) R σ₂ (ls₂.set i v)) (hk : ∀ σ₂ ls₂, I xs.reverse.length σ₂ ls₂ → swps Φ G r Q R σ₂ ls₂) : swps Φ G (.cons (.for1 (.one i) (.rev (.cons e .nil)) b) r) Q R σ ls := by
  refine ewp_mono (Q' := fun d σ' => itWp 3 [d] (fun xs u σ₁ => _) σ') hM e (cwp_e hM e he) ?_
  rintro d σ' ⟨e1, e2⟩
  subst e1; subst e2
  exact ⟨_, rfl, I, hI, fun k v σ₂ ls₂ hv h => hs k v hv σ₂ ls₂ h, hk⟩
/-- a subtree that waits, with the key that its parent tells -/
structure Pd where
  h : Nat
  t : T h
  kv : V
noncomputable def Pd.item (H : Nat) (p : Pd) : V := .tup [.int p.t.1, .int ((H : Int) - p.h), p.kv]
noncomputable def Pd.bks (p : Pd) : Dct := bksE (p.h + 1) p.t
noncomputable def bksP (l : List Pd) : Dct := l.flatMap Pd.bks
noncomputable def prsP (l : List Pd) : List V := l.flatMap fun p => prsF p.h p.t.2
structure Pd.Ok (w : Int) (H : Nat) (p : Pd) : Prop where
  le : p.h ≤ H
  half : p.t.1 ≠ 0 → halfI w ≤ p.t.2.length
  most : (p.t.2.length : Int) ≤ w
  two : p.h ≠ 0 → 2 ≤ p.t.2.length
  wf : ∀ x ∈ p.t.2, WfE w p.h x
  kv : p.kv = .none ∨ (p.kv = .int (keyE (p.h + 1) p.t) ∧ p.t.2 ≠ [])
noncomputable def kidP (h : Nat) (c : E (h + 1)) : Pd := ⟨h, c, .int (keyE (h + 1) c)⟩
noncomputable def kidsP {h : Nat} (t : List (E (h + 1))) : List Pd := t.map (kidP h)
theorem kids_bks {h : Nat} {t : List (E (h + 1))} : bksP (kidsP t) = bksF (h + 1) t := List.flatMap_map ..
theorem kids_prs {h : Nat} {t : List (E (h + 1))} : prsP (kidsP t) = prsF (h + 1) t := List.flatMap_map ..
theorem bks_few {w : Int} (hw : 3 ≤ w) : ∀ {h : Nat} {x : E h}, WfE w h x → (bksE h x).length + 1 ≤ (prsE h x).length
  | 0, _, _ => Nat.le_refl _
  | h + 1, (n, cs), hf => by
    have h2 : 2 ≤ cs.length := wf_two hw hf
    have key : ∀ {l : List (E h)}, (∀ x ∈ l, WfE w h x) → (bksF h l).length + l.length ≤ (prsF h l).length := fun {l} => by
      induction l with
      | nil => exact fun _ => Nat.le_refl _
      | cons x l ih =>
        intro hl
        have i1 := bks_few hw (hl x (.head _))
        have i2 := ih fun y hy => hl y (.tail _ hy)
        show (bksE h x ++ bksF h l).length + (l.length + 1) ≤ (prsE h x ++ prsF h l).length
        rw [List.length_append, List.length_append]; (first | lia | omega)
    have := key hf.2
    show (bksF h cs).length + 1 + 1 ≤ (prsF h cs).length
    (first | lia | omega)
theorem forest_few {w : Int} (hw : 3 ≤ w) {h : Nat} : ∀ {l : List (E h)}, (∀ x ∈ l, WfE w h x) → (bksF h l).length + l.length ≤ (prsF h l).length
  | [], _ => Nat.le_refl _
  | x :: l, hl => by
    have i1 := bks_few hw (hl x (.head _))
    have i2 := forest_few hw fun y hy => hl y (.tail _ hy)
    show (bksE h x ++ bksF h l).length + (l.length + 1) ≤ (prsE h x ++ prsF h l).length
    rw [List.length_append, List.length_append]; (first | lia | omega)
theorem len_ref {σ : View} {a : Addr} {xs : List V} (h : σ a = some (.list false xs)) : lenOf σ (.ref a) = some xs.length := lenOf_seq (by show (match σ a with | some (.list _ xs) => some xs | _ => none) = _; rw [h])
theorem in_ref {σ : View} {a : Addr} {k : Int} {ch : Dct} (h : σ a = some (.dict false ch)) : inV σ (.int k) (.ref a) = some (lookD k ch).isSome := by
  show (dicOf σ (.ref a)).map _ = _
  simp only [dicOf, h]; rfl
theorem prs_pair {w : Int} : ∀ {h : Nat} {x : E h}, WfE w h x → ∀ p ∈ prsE h x, ∃ k s, p = .tup [.int k, .str s]
  | 0, x, hf, p, hp => by rw [List.mem_singleton.mp hp]; exact hf
  | h + 1, x, hf, p, hp => by
    obtain ⟨y, hy, hp⟩ := List.mem_flatMap.mp hp
    exact prs_pair (hf.2 y hy) p hp
inductive rofS (xs : List V) (Q : Post) (σ : View)  : Prop
  | mk (w : Int) (D : Dct) (H : Nat) (top : T H) : xs = [.dct D, .int w] → Tr w D top → D.length = (bksE (H + 1) top).length → Q (.lst (prsF H top.2)) σ → rofS xs Q σ
/-- where row_of has come to -/
structure Ro (w : Int) (D : Dct) {H : Nat} (top : T H) (st : List Pd) (seen : Dct) (row : List V) (deep : V) : Prop where
  ok : ∀ p ∈ st, p.Ok w H
  prs : row ++ prsP st = prsF H top.2
  perm : (keysD seen ++ keysD (bksP st)).Perm (keysD (bksE (H + 1) top))
  inD : ∀ q ∈ bksP st, lookD q.1 D = some q.2
  deep : deep = .none ∨ deep = .int H
theorem kind_lf : decide (sBranch = Str.ofString "leaf") = false := by decide +kernel
theorem kids_len {h : Nat} {t : List (E (h + 1))} : (kidsP t).length = t.length := List.length_map _
inductive RoI (w : Int) (D : Dct) {H : Nat} (top : T H) (a b : Addr) (σ : View) (n : Nat) (σ' : View) (ls' : Ls) : Prop
  | mk (st seen row deep) : Ro w D top st seen row deep → n = (bksP st).length → σ' = (σ.upd a (.dict false seen)).upd b (.list false ((st.map (Pd.item H)).reverse)) → ls' 0 = some (.dct D) → ls' 1 = some (.int w) → ls' 2 = some (.lst row) → ls' 3 = some (.ref a) → ls' 4 = some deep → ls' 5 = some (.ref b) → RoI w D top a b σ n σ' ls'
inductive RoR (D : Dct) {H : Nat} (top : T H) (seen : Dct) (σ : View) (k : Nat) (σ' : View) (ls' : Ls) : Prop
  | mk : σ' = σ → ls' 0 = some (.dct D) → ls' 2 = some (.lst (prsF H top.2)) → ls' 3 = some (.dct seen) → RoR D top seen σ k σ' ls'
inductive RoC (w : Int) (D : Dct) (H : Nat) {h' : Nat} (t : T (h' + 1)) (kv : V) (st : List Pd) (seen : Dct) (row : List V) (deep : V) (a b : Addr) (σ : View) (k : Nat) (σ' : View) (ls' : Ls) : Prop
  | mk : σ' = (σ.upd a (.dict false (putD t.1 (.bool true) seen))).upd b (.list false ((st.map (Pd.item H)).reverse ++ ((kidsP t.2).reverse.take k).map (Pd.item H))) → ls' 6 = some (.tup [.int t.1, .int ((H : Int) - ((h' + 1 : Nat) : Int)), kv]) → ls' 0 = some (.dct D) → ls' 1 = some (.int w) → ls' 2 = some (.lst row) → ls' 3 = some (.ref a) → ls' 4 = some deep → ls' 5 = some (.ref b) → RoC w D H t kv st seen row deep a b σ k σ' ls'
theorem rof_ok (Φ : Spec) (hM : SpecMono Φ) (Gc : Nat → V) (hG : ∀ xs Q σ, goodS xs Q σ → Φ 19 xs Q σ) {xs : List V} {Q : Post} {σ : View} (h : rofS xs Q σ) : xs.length = 2 ∧ swps Φ Gc m_law_row_of (fun σ' _ => Q .none σ') Q σ (argLs xs) := by
  obtain ⟨w, D, H, top, rfl, tr, hDl, h⟩ := h
  have hw3 := tr.hw
  have hw2 := tr.hw2
  have hh := two_half hw3
  have hH := high tr
  have hfew : (bksE (H + 1) top).length ≤ 2001 := by
    have h1 := forest_few hw3 tr.root.wf
    have h2 := tr.few
    show (bksF H top.2).length + 1 ≤ 2001
    (first | lia | omega)
  have hpl : (prsF H top.2).length ≤ 2000 := tr.few
  refine ⟨rfl, c_let hM (v := .lst []) r2 ?_⟩
  refine cut_dict fun a ha => ?_
  refine c_let hM (v := .none) r2 ?_
  refine c_newl hM (xs := [.tup [.int 0, .int 0, .none]]) r2 (show 1 ≤ 1000 by decide) fun b hb => ?_
  have hab : a ≠ b := fun e => by rw [← e, upd_self] at hb; cases hb
  have hbσ : σ b = none := by rw [upd_ne hab.symm] at hb; exact hb
  refine c_loop hM (RoI w D top a b σ)
    ⟨_, [⟨H, top, .none⟩], [], [], .none, ⟨fun p hp => ?_, ?_, ?_, ?_, .inl rfl⟩, rfl, ?_, rfl, rfl, rfl, rfl, rfl, rfl⟩ ?_
  · rw [List.mem_singleton.mp hp]; exact ⟨Nat.le_refl _, fun q => absurd tr.root.num q, tr.root.most, tr.root.two, tr.root.wf, .inl rfl⟩
  · exact List.append_nil _
  · rw [show bksP [⟨H, top, .none⟩] = bksE (H + 1) top from List.append_nil _]; exact List.Perm.refl _
  · rw [show bksP [⟨H, top, .none⟩] = bksE (H + 1) top from List.append_nil _]; exact tr.inB
  · show _ = (σ.upd a _).upd b (.list false [.tup [.int top.1, .int ((H : Int) - H), .none]])
    rw [tr.root.num, Int.sub_self]
  rintro n σ' ls' ⟨st, seen, row, deep, ro, rfl, rfl, l0, l1, l2, l3, l4, l5⟩
  refine opt_of l5 ?_
  refine opt_map (len_ref (upd_self _ _ _)) ?_
  sizeOf_list_dec
  have hpn : keysD seen ++ keysD (bksP st) = keysD (seen ++ bksP st) := (keys_app ..).symm
  have hsl := ro.perm.length_eq
  rw [hpn] at hsl
  unfold keysD at hsl
  rw [List.length_map, List.length_append, List.length_map] at hsl
  cases st with
  | nil =>
    refine cut_freezeL l5 (upd_self _ _ _) ?_
    rw [del_upd (by rw [upd_ne hab.symm]; exact hbσ)]
    refine cut_freezeD l3 (upd_self _ _ _) ?_
    refine swps_at (del_upd ha) ?_
    have hrow : row = prsF H top.2 := by have := ro.prs; rw [show prsP [] = [] from rfl, List.append_nil] at this; exact this
    subst hrow
    have hent : Ents (prsF H top.2) := fun p hp => by
      obtain ⟨x, hx, hp⟩ := List.mem_flatMap.mp hp
      obtain ⟨k, s, rfl⟩ := prs_pair (tr.root.wf x hx) p hp
      exact ⟨.str s, rfl⟩
    refine c_for_r2 hM (lo := 1) (hi := (prsF H top.2).length) (RoR D top seen σ) ?_ (smallI_of (by (first | lia | omega)) (by (first | lia | omega))) (smallI_of (by (first | lia | omega)) (by (first | lia | omega))) ⟨rfl, l0, l2, rfl⟩ ?_ ?_
    · refine opt_of l2 ?_
      exact r2
    · rintro k hk σ' ls' ⟨rfl, l0, l2, l3⟩
      have hk2 : k + 1 < (prsF H top.2).length := by (first | lia | omega)
      have e1 : (prsF H top.2)[k + 1]? = some (prsF H top.2)[k + 1] := List.getElem?_eq_getElem hk2
      have e0 : (prsF H top.2)[k]? = some (prsF H top.2)[k] := List.getElem?_eq_getElem (Nat.lt_of_succ_lt hk2)
      have hlt : keyOf (prsF H top.2)[k] < keyOf (prsF H top.2)[k + 1] := by
        have := List.pairwise_iff_getElem.mp tr.ris k (k + 1) (by rw [List.length_map]; exact Nat.lt_of_succ_lt hk2) (by rw [List.length_map]; exact hk2) (Nat.lt_succ_self k)
        rw [List.getElem_map, List.getElem_map] at this; exact this
      obtain ⟨y1, q1⟩ := hent _ (List.getElem_mem hk2)
      obtain ⟨y0, q0⟩ := hent _ (List.getElem_mem (Nat.lt_of_succ_lt hk2))
      generalize (prsF H top.2)[k + 1] = p1 at e1 hlt q1
      generalize (prsF H top.2)[k] = p0 at e0 hlt q0
      generalize keyOf p1 = k1 at hlt q1
      generalize keyOf p0 = k0 at hlt q0
      subst q1 q0
      refine c_guard hM (r := .nil) ?_ ⟨rfl, l0, l2, l3⟩
      refine opt_of l2 ?_
      sizeOf_list_dec
      refine opt_of (idx_at (k := k + 1) (by (first | lia | omega)) e1) ?_
      sizeOf_list_dec
      refine opt_of l2 ?_
      sizeOf_list_dec
      refine opt_of (idx_at (k := k) (by (first | lia | omega)) e0) ?_
      sizeOf_list_dec
      exact ⟨rfl, decide_eq_false (Int.not_le.mpr hlt)⟩
    · rintro σ' ls' ⟨rfl, l0, l2, l3⟩
      refine c_guard hM ?_ (c_ret hM (opt_of l2 h))
      refine opt_of l3 ?_
      sizeOf_list_dec
      refine opt_of l0 ?_
      sizeOf_list_dec
      rw [List.length_map, List.length_map]
      refine ⟨rfl, ?_⟩
      have hs2 : seen.length + 0 = (bksE (H + 1) top).length := hsl
      rw [decide_eq_true (by (first | lia | omega))]; rfl
  | cons p st =>
    obtain ⟨h', t, kv⟩ := p
    have hok := ro.ok _ (.head _)
    have hmem : ((t.1, blkT h' t.2) : Int × V) ∈ bksP (⟨h', t, kv⟩ :: st) := List.mem_append.mpr (.inl (.head _))
    have hlk := ro.inD _ hmem
    have hns : lookD t.1 seen = none := lookD_none.mpr fun q => (List.nodup_append.mp (ro.perm.nodup_iff.mpr tr.nd)).2.2 t.1 q t.1 (mem_keysD hmem) rfl
    have hprs : row ++ (prsF h' t.2 ++ prsP st) = prsF H top.2 := ro.prs
    have hris : Ris (prsF h' t.2) := by
      have := tr.ris
      rw [← hprs] at this
      exact (ris_app (ris_app this).2.1).1
    have hrr := row_ris hw3 hok.wf hris
    have hrl : row.length + (prsF h' t.2).length ≤ 2000 := by
      have := hpl
      rw [← hprs, List.length_append, List.length_append] at this
      (first | lia | omega)
    have hkp : keysD (putD t.1 (.bool true) seen) = keysD seen ++ [t.1] := by rw [keys_put, if_neg (lookD_none.mp hns)]
    have hbl : (bksP (⟨h', t, kv⟩ :: st)).length = (bksF h' t.2).length + 1 + (bksP st).length := by
      show (((t.1, blkT h' t.2) :: bksF h' t.2) ++ bksP st).length = _
      rw [List.length_append]; rfl
    have hkb : keysD (bksP (⟨h', t, kv⟩ :: st)) = t.1 :: (keysD (bksF h' t.2) ++ keysD (bksP st)) := keys_app (a := (t.1, blkT h' t.2) :: bksF h' t.2)
    have hmost := hok.most
    have stl : st.length ≤ 2001 := by
      have : ∀ {l : List Pd}, l.length ≤ (bksP l).length := fun {l} => by
        induction l with
        | nil => exact Nat.le_refl _
        | cons p l ih => show l.length + 1 ≤ (p.bks ++ bksP l).length; rw [List.length_append]; show _ ≤ _ + 1 + _; (first | lia | omega)
      have h1 := this (l := st)
      (first | lia | omega)
    rw [List.length_reverse, List.length_map, List.length_cons, decide_eq_true (show (0 : Int) < ((st.length + 1 : Nat) : Int) by (first | lia | omega))]
    refine c_pop (x := .tup [.int t.1, .int ((H : Int) - h'), kv]) (xs := (st.map (Pd.item H)).reverse) l5 (by rw [upd_self, List.map_cons, List.reverse_cons]; rfl) (upd_upd _ _ _ _) ?_
    refine c_let hM (v := .int (halfI w)) (opt_of l1 r2) ?_
    refine c_if_assign hM (fun d => ∃ lo : Int, lo ≤ t.2.length ∧ d = .int lo) ?_ ?_
    · sizeOf_list_dec
      by_cases q : t.1 = 0
      · rw [decide_eq_true q]; exact ⟨rfl, rfl, 0, Int.natCast_nonneg _, rfl⟩
      · rw [decide_eq_false q]; exact ⟨rfl, _, hok.half q, rfl⟩
    rintro _ ⟨lo, hlo, rfl⟩
    refine c_let hM (v := blkT h' t.2) (opt_of l0 ⟨⟨D, rfl⟩, And.intro rfl (by show (lookD t.1 D).getD .none = _; rw [hlk]; rfl)⟩) ?_
    refine c_guard hM ?_ ?_
    · refine opt_of l3 (opt_map (in_ref (upd_other hab)) ?_)
      rw [hns]
      sizeOf_list_dec
      exact opt_of l1 (hG _ _ _ ⟨w, h', t.2, lo, w, rfl, hok.wf, hrr, hlo, hmost, rfl, rfl⟩)
    refine c_setd hM (v := .bool true) (j := t.1) r2 (opt_of l3 r2) r2 (upd_other hab) (by unfold big; (first | lia | omega)) (upd_swap hab) ?_
    refine c_guard hM ?_ ?_
    · sizeOf_list_dec
      rcases hok.kv with e | ⟨e, hne⟩
      · have e : kv = .none := e
        subst e; exact ⟨rfl, rfl⟩
      · have e : kv = .int (keyE (h' + 1) (nE t.1 t.2)) := e
        subst e
        obtain ⟨kk, y, rr, e1, e2⟩ := ent_cons (n := t.1) hne hok.wf
        have ek : kk = keyE (h' + 1) (nE t.1 t.2) := by
          have e2 : V.tup [.int kk, .int t.1] = .tup [.int (keyE (h' + 1) (nE t.1 t.2)), .int t.1] := e2
          cases e2; rfl
        refine opt_map (a := false) rfl ?_
        unfold blkT blkV
        sizeOf_list_dec
        rw [e1]
        refine opt_of (r_it_t0 (σ := σ)) ?_
        sizeOf_list_dec
        exact ⟨rfl, by rw [decide_eq_true ek]; rfl⟩
    cases h' with
    | zero =>
      refine c_ite hM (r := .nil) true (by unfold blkT blkV; sizeOf_list_dec; exact ⟨rfl, decide_eq_true rfl⟩) ?_
      refine c_guard hM ?_ ?_
      · refine opt_of l4 ?_
        rcases ro.deep with e | e
        · subst e; exact ⟨rfl, rfl⟩
        · subst e
          sizeOf_list_dec
          refine opt_map (a := false) rfl ?_
          sizeOf_list_dec
          refine opt_of l4 ?_
          sizeOf_list_dec
          exact ⟨rfl, by rw [decide_eq_true (show (H : Int) = (H : Int) - ((0 : Nat) : Int) by (first | lia | omega))]; rfl⟩
      refine c_let hM (v := .int H) ⟨rfl, by rw [show (H : Int) - ((0 : Nat) : Int) = H by (first | lia | omega)]⟩ ?_
      rw [prs0, ← row0 t.2] at hrl
      refine c_let hM (r := .nil) (v := .lst (row ++ rowE 0 t.2)) (opt_of l2 (opt_of (add_l (σ := σ) (by unfold big; (first | lia | omega))) r2)) ?_
      refine ⟨(bksP st).length, by rw [hbl]; (first | lia | omega), st, _, _, _, ⟨fun p hp => ro.ok p (.tail _ hp), ?_, ?_, fun q hq => ro.inD q (List.mem_append.mpr (.inr hq)), .inr rfl⟩, rfl, rfl, l0, l1, rfl, l3, rfl, l5⟩
      · rw [List.append_assoc, row0, ← hprs, prs0]
      · have := ro.perm
        rw [hkb, bks0] at this
        rw [hkp, List.append_assoc]; exact this
    | succ h' =>
      have h2 : 2 ≤ t.2.length := hok.two (Nat.succ_ne_zero _)
      refine c_ite hM (r := .nil) false (by unfold blkT blkV; sizeOf_list_dec; exact ⟨rfl, kind_lf⟩) ?_
      refine c_ite hM (r := .nil) false (And.intro rfl (decide_eq_false (by rw [row_len8]; (first | lia | omega)))) ?_
      have hrv : (rowE (h' + 1) t.2).reverse = (t.2.reverse).map (entE (h' + 1)) := by unfold rowE; rw [List.map_reverse]
      refine c_for_rv hM (r := .nil) (xs := rowE (h' + 1) t.2) (RoC w D H t kv st seen row deep a b σ) r2 ⟨by rw [List.take_zero, List.map_nil, List.append_nil], rfl, l0, l1, l2, l3, l4, l5⟩ ?_ ?_
      · rintro k v hv σ' ls' ⟨rfl, l6, l0, l1, l2, l3, l4, l5⟩
        rw [hrv] at hv
        obtain ⟨c, hc, rfl⟩ := Option.map_eq_some_iff.mp ((List.getElem?_map ..).symm.trans hv)
        have hkl : k < t.2.length := by have := (List.getElem?_eq_some_iff.mp hc).1; rw [List.length_reverse] at this; exact this
        rw [show entE (h' + 1) c = .tup [.int (keyE (h' + 1) c), .int (numE h' c)] from rfl]
        refine c_expr hM (r := .nil) (opt_of l5 ⟨⟨b, false, _, rfl, upd_self _ _ _⟩, ?_⟩)
        skip
        refine opt_of l6 ?_
        skip
        have ht : ((kidsP t.2).reverse.take (k + 1)).map (Pd.item H) = ((kidsP t.2).reverse.take k).map (Pd.item H) ++ [.tup [.int (numE h' c), .int ((H : Int) - ((h' + 1 : Nat) : Int) + 1), .int (keyE (h' + 1) c)]] := by
          have hk3 : (kidsP t.2).reverse[k]? = some (kidP h' c) := by unfold kidsP; rw [← List.map_reverse, List.getElem?_map, hc]; rfl
          rw [List.take_add_one, hk3, List.map_append]
          show _ ++ [V.tup [.int (numE h' c), .int ((H : Int) - (h' : Nat)), .int (keyE (h' + 1) c)]] = _
          rw [show (H : Int) - ((h' + 1 : Nat) : Int) + 1 = (H : Int) - (h' : Nat) by (first | lia | omega)]
        refine ⟨_, upd_self _ _ _, ?_, ?_, l6, l0, l1, l2, l3, l4, l5⟩
        · rw [List.length_append, List.length_reverse, List.length_map, List.length_map]
          have := List.length_take_le k (kidsP t.2).reverse
          unfold big; (first | lia | omega)
        · rw [upd_upd, ht, List.append_assoc]
      · rintro σ' ls' ⟨rfl, l6, l0, l1, l2, l3, l4, l5⟩
        have hrlen : (rowE (h' + 1) t.2).reverse.length = (kidsP t.2).reverse.length := by rw [List.length_reverse, List.length_reverse, row_len8, kids_len]
        have hbk : bksP (kidsP t.2 ++ st) = bksF (h' + 1) t.2 ++ bksP st := by rw [← kids_bks]; exact List.flatMap_append ..
        refine ⟨(bksP (kidsP t.2 ++ st)).length, by rw [hbl, hbk, List.length_append]; (first | lia | omega), kidsP t.2 ++ st, putD t.1 (.bool true) seen, row, deep, ⟨fun p hp => ?_, ?_, ?_, fun q hq => ?_, ro.deep⟩, rfl, ?_, l0, l1, l2, l3, l4, l5⟩
        · rcases List.mem_append.mp hp with hp | hp
          · obtain ⟨c, hc, rfl⟩ := List.mem_map.mp hp
            have hwc := hok.wf c hc
            exact ⟨Nat.le_of_succ_le hok.le, fun _ => hwc.1.1, hwc.1.2, fun _ => wf_two hw3 hwc, hwc.2, .inr ⟨rfl, ne_of_len (Nat.lt_of_lt_of_le Nat.two_pos (wf_two hw3 hwc))⟩⟩
          · exact ro.ok p (.tail _ hp)
        · rw [← hprs]
          show row ++ prsP (kidsP t.2 ++ st) = _
          rw [show prsP (kidsP t.2 ++ st) = prsP (kidsP t.2) ++ prsP st from List.flatMap_append .., kids_prs]
        · have := ro.perm
          rw [hkb] at this
          rw [hkp, hbk, keys_app, List.append_assoc]; exact this
        · rw [hbk] at hq
          refine ro.inD q (List.mem_append.mpr ?_)
          rcases List.mem_append.mp hq with hq | hq
          · exact .inl (.tail _ hq)
          · exact .inr hq
        · rw [hrlen, List.take_length, ← List.map_reverse, ← List.map_append, ← List.reverse_append, List.map_reverse]
end

section
open PySem PySem.W PySem.Calls PyProof.Rows
set_option maxRecDepth 100000
set_option linter.unusedSimpArgs false
set_option linter.unusedVariables false
theorem lvl_arith {n w c : Int} (hw : 3 ≤ w) (hn : w < n) : 0 < max 1 (n / halfI w) - -(-n / w) + 1 ∧ 2 ≤ -(-n / w) + c % (max 1 (n / halfI w) - -(-n / w) + 1) ∧
    halfI w * (-(-n / w) + c % (max 1 (n / halfI w) - -(-n / w) + 1)) ≤ n ∧ n ≤ w * (-(-n / w) + c % (max 1 (n / halfI w) - -(-n / w) + 1)) := by
  have hh1 : 2 * halfI w ≤ w + 1 := by unfold halfI; (first | lia | omega)
  have hh2 : w ≤ 2 * halfI w := by unfold halfI; (first | lia | omega)
  generalize halfI w = h at *
  have a1 := Int.mul_ediv_self_le (x := -n) (k := w) (by (first | lia | omega))
  have a2 := Int.lt_mul_ediv_self_add (x := -n) (k := w) (by (first | lia | omega))
  have b1 := Int.mul_ediv_self_le (x := n) (k := h) (by (first | lia | omega))
  have b2 := Int.lt_mul_ediv_self_add (x := n) (k := h) (by (first | lia | omega))
  generalize hL : -(-n / w) = L at *
  have hq : -n / w = -L := by (first | lia | omega)
  rw [hq, Int.mul_neg] at a1 a2
  generalize hM0 : n / h = M0 at *
  have hL2 : 2 ≤ L := by
    apply Classical.byContradiction; intro hc
    have := Int.mul_le_mul_of_nonneg_left (show L ≤ 1 by (first | lia | omega)) (show 0 ≤ w by (first | lia | omega))
    (first | lia | omega)
  have hLM : L ≤ M0 := by
    apply Classical.byContradiction; intro hc
    have c1 := Int.mul_le_mul_of_nonneg_left (show M0 ≤ L - 1 by (first | lia | omega)) (show 0 ≤ h by (first | lia | omega))
    have c2 := Int.mul_le_mul_of_nonneg_right (show 2 * h - 1 ≤ w by (first | lia | omega)) (show 0 ≤ L - 1 by (first | lia | omega))
    have c3 := Int.mul_nonneg (show 0 ≤ h - 1 by (first | lia | omega)) (show 0 ≤ L - 2 by (first | lia | omega))
    have e1 : h * (L - 1) = h * L - h := by rw [Int.mul_sub, Int.mul_one]
    have e2 : (2 * h - 1) * (L - 1) = 2 * (h * L) - 2 * h - L + 1 := by rw [Int.sub_mul, Int.mul_sub, Int.mul_assoc]; (first | lia | omega)
    have e3 : (h - 1) * (L - 2) = h * L - h * 2 - L + 2 := by rw [Int.sub_mul, Int.mul_sub]; (first | lia | omega)
    have e4 : w * (L - 1) = w * L - w := by rw [Int.mul_sub, Int.mul_one]
    (first | lia | omega)
  have hmax : max 1 M0 = M0 := by (first | lia | omega)
  refine (Eq.symm hmax) ▸ ?_
  have m1 := Int.emod_nonneg c (show M0 - L + 1 ≠ 0 by (first | lia | omega))
  have m2 := Int.emod_lt_of_pos c (show 0 < M0 - L + 1 by (first | lia | omega))
  generalize c % (M0 - L + 1) = e at *
  refine ⟨by (first | lia | omega), by (first | lia | omega), ?_, ?_⟩
  · have := Int.mul_le_mul_of_nonneg_left (show L + e ≤ M0 by (first | lia | omega)) (show 0 ≤ h by (first | lia | omega)); (first | lia | omega)
  · have := Int.mul_le_mul_of_nonneg_left (show L ≤ L + e by (first | lia | omega)) (show 0 ≤ w by (first | lia | omega)); (first | lia | omega)
theorem size_arith {n w m k : Int} (hk0 : 0 ≤ k) (hw : 3 ≤ w) (hm : 2 ≤ m) (h1 : halfI w * m ≤ n) (h2 : n ≤ w * m) : halfI w ≤ n / m + (if decide (k < n % m) then 1 else 0) ∧ n / m + (if decide (k < n % m) then 1 else 0) ≤ w := by
  have hq := Int.mul_ediv_add_emod n m
  have r1 := Int.emod_nonneg n (show m ≠ 0 by lia)
  have r2 := Int.emod_lt_of_pos n (show 0 < m by solve_by_elim (maxDepth := 3) [Int.le_of_lt, Int.le_trans, Int.lt_of_lt_of_le, Int.lt_of_le_of_lt, i1, i2, i5, i6])
  have hd : halfI w ≤ n / m := Int.le_ediv_of_mul_le (by solve_by_elim (maxDepth := 3) [Int.le_of_lt, Int.le_trans, Int.lt_of_lt_of_le, Int.lt_of_le_of_lt, i1, i2, i5, i6]) h1
  generalize n / m = q at *
  generalize n % m = r at *
  refine ⟨by split <;> lia, ?_⟩
  rw [Int.mul_comm] at h2
  by_cases hr : r = 0
  · have : q ≤ w := by
      apply Classical.byContradiction; intro hc
      have := Int.mul_le_mul_of_nonneg_left (show w + 1 ≤ q by lia) (show 0 ≤ m by lia)
      skip; lia
    split
    · rename_i hk; have := of_decide_eq_true hk; lia
    · lia
  · have : q < w := by
      apply Classical.byContradiction; intro hc
      have := Int.mul_le_mul_of_nonneg_left (show w ≤ q by lia) (show 0 ≤ m by lia)
      lia
    split <;> (first | assumption | lia)
noncomputable def atI (q r : Int) (k : Nat) : Int := (k : Int) * q + min (k : Int) r
theorem at_succ {q r : Int} {k : Nat} : atI q r (k + 1) = atI q r k + (q + if decide ((k : Int) < r) then 1 else 0) := by
  unfold atI
  simp only [show ((k + 1 : Nat) : Int) = (k : Int) + 1 by rfl, Int.add_mul, Int.one_mul]
  by_cases h : (k : Int) < r
  · skip; skip; lia
  · skip; skip; lia
theorem sliceL_mid {α : Type} {xs : List α} {a b : Int} (h0 : 0 ≤ a) (h1 : a ≤ b) (h2 : b ≤ xs.length) : sliceL xs a (some b) = (xs.take b.toNat).drop a.toNat ∧ (sliceL xs a (some b)).length = (b - a).toNat ∧ xs.take a.toNat ++ sliceL xs a (some b) = xs.take b.toNat := by
  obtain ⟨n, rfl⟩ := Int.eq_ofNat_of_zero_le (Int.le_trans h0 h1)
  obtain ⟨m, rfl⟩ := Int.eq_ofNat_of_zero_le h0
  have hm : m ≤ n := Int.ofNat_le.mp h1
  have hn : n ≤ xs.length := Int.ofNat_le.mp h2
  have c : ∀ k : Nat, k ≤ xs.length → clipI xs.length (k : Int) = k := fun k hk => (if_neg (Int.not_lt.mpr (Int.natCast_nonneg k))).trans (Nat.min_eq_left hk)
  have e : sliceL xs (m : Int) (some (n : Int)) = (xs.take n).drop m := by
    show List.drop (clipI xs.length m) (List.take (clipI xs.length n) xs) = _
    rw [c n hn, c m (Nat.le_trans hm hn)]
  refine ⟨e, ?_, ?_⟩
  · rw [e, List.length_drop, List.length_take, Nat.min_eq_left hn]; exact (Int.toNat_sub n m).symm
  · rw [e]
    show List.take m xs ++ _ = List.take n xs
    have : xs.take m = (xs.take n).take m := by rw [List.take_take, Nat.min_eq_left hm]
    rw [this, List.take_append_drop]
structure LvA (n : Nat) (w m q r : Int) : Prop where
  hq : (n : Int) / m = q
  hr : (n : Int) % m = r
  m2 : 2 ≤ m
  mn : m ≤ n
  r0 : 0 ≤ r
  sz : ∀ k : Nat, halfI w ≤ q + (if decide ((k : Int) < r) then 1 else 0) ∧ q + (if decide ((k : Int) < r) then 1 else 0) ≤ w
  at0 : ∀ k : Nat, (k : Int) ≤ m → 0 ≤ atI q r k ∧ atI q r k ≤ n
  fin : atI q r m.toNat = n
theorem lvl_all {n : Nat} {w m : Int} (hw3 : 3 ≤ w) (m2 : 2 ≤ m) (h1 : halfI w * m ≤ n) (h2 : n ≤ w * m) : LvA n w m ((n : Int) / m) ((n : Int) % m) := by
  have hh : (2 : Int) ≤ halfI w := by unfold halfI; (first | lia | omega)
  have hq := Int.mul_ediv_add_emod (n : Int) m
  have hr1 := Int.emod_nonneg (n : Int) (show m ≠ 0 by (first | lia | omega))
  have hr2 := Int.emod_lt_of_pos (n : Int) (show 0 < m by (first | lia | omega))
  have hq0 : 0 ≤ (n : Int) / m := Int.ediv_nonneg (Int.natCast_nonneg n) (Int.le_trans (by decide) m2)
  refine ⟨rfl, rfl, m2, ?_, hr1, fun k => size_arith (Int.natCast_nonneg k) hw3 m2 h1 h2, fun k hk => ?_, ?_⟩
  · have := Int.mul_le_mul_of_nonneg_right hh (show 0 ≤ m by (first | lia | omega)); (first | lia | omega)
  · have h1 := Int.mul_le_mul_of_nonneg_right hk hq0
    have h2 := Int.mul_nonneg (Int.natCast_nonneg k) hq0
    unfold atI; (first | lia | omega)
  · unfold atI; rw [show ((m.toNat : Nat) : Int) = m by (first | lia | omega)]; (first | lia | omega)
inductive lvlS (xs : List V) (Q : Post) (σ : View)  : Prop
  | mk (ps w c) : xs = [.lst ps, .int w, .int c] → 3 ≤ w → w ≤ 64 → w < ps.length → ps.length ≤ 1300 → (∀ rs : List (List V), rs.flatten = ps → (∀ r ∈ rs, halfI w ≤ r.length ∧ (r.length : Int) ≤ w) → 2 ≤ rs.length → Q (.lst (rs.map .tup)) σ) → lvlS xs Q σ
inductive LvI (w : Int) (ps : List V) (m q r : Int) (a : Addr) (σ : View) (k : Nat) (σ' : View) (ls' : Ls) : Prop
  | mk (rs : List (List V)) : σ' = σ.upd a (.list false (rs.map .tup)) → rs.length = k → rs.flatten = ps.take (atI q r k).toNat → (∀ x ∈ rs, halfI w ≤ x.length ∧ (x.length : Int) ≤ w) → ls' 0 = some (.lst ps) → ls' 5 = some (.int m) → ls' 6 = some (.ref a) → ls' 7 = some (.int (atI q r k)) → LvI w ps m q r a σ k σ' ls'
theorem level_ok (Φ : Spec) (hM : SpecMono Φ) (Gc : Nat → V) {xs : List V} {Q : Post} {σ : View} (h : lvlS xs Q σ) : xs.length = 3 ∧ swps Φ Gc m_law_level (fun σ' _ => Q .none σ') Q σ (argLs xs) := by
  obtain ⟨ps, w, c, rfl, hw3, hw, hn, hl, h⟩ := h
  refine ⟨rfl, ?_⟩
  unfold m_law_level ss
  simp only [List.foldr]
  obtain ⟨ar1, ar2, ar3, ar4⟩ := lvl_arith (n := ps.length) (w := w) (c := c) hw3 hn
  have hh : 0 < halfI w ∧ halfI w < 2 ^ 29 := by unfold halfI; (first | lia | omega)
  refine c_let hM (v := .int (-(-(ps.length : Int) / w))) (opt_if ⟨Int.lt_of_lt_of_le (by decide) hw3, Int.lt_of_le_of_lt hw (by decide)⟩ r2) ?_
  refine c_let hM (v := .int (max 1 ((ps.length : Int) / halfI w))) (opt_if hh r2) ?_
  refine c_let hM (v := .int (-(-(ps.length : Int) / w) + c % (max 1 ((ps.length : Int) / halfI w) - -(-(ps.length : Int) / w) + 1))) (opt_if ar1 r2) ?_
  generalize -(-(ps.length : Int) / w) + c % (max 1 ((ps.length : Int) / halfI w) - -(-(ps.length : Int) / w) + 1) = m at ar2 ar3 ar4 ⊢
  obtain ⟨q, r, A⟩ : ∃ q r, LvA ps.length w m q r := ⟨_, _, lvl_all hw3 ar2 ar3 ar4⟩
  have hm1 : m ≤ 1300 := Int.le_trans A.mn (Int.ofNat_le.mpr hl)
  have hm0 : 0 < m := Int.lt_of_lt_of_le (by decide) ar2
  have ha0 : atI q r 0 = 0 := by unfold atI; have := A.r0; rw [show ((0 : Nat) : Int) = 0 from rfl, Int.zero_mul]; (first | lia | omega)
  refine c_newl hM (xs := []) r2 (Nat.zero_le _) fun a ha => ?_
  refine c_let hM (v := .int (atI q r 0)) ⟨rfl, by rw [ha0]⟩ ?_
  refine c_for_r hM (n := m) (LvI w ps m q r a σ) r2 (Int.le_of_lt hm0) (Int.lt_of_le_of_lt hm1 (by decide))
    ⟨[], rfl, rfl, by rw [ha0]; rfl, (fun _ h => ((List.not_mem_nil h).elim)), rfl, rfl, rfl, rfl⟩ ?_ ?_
  · rintro k hk σ' ls' ⟨rs, rfl, hlen, hfl, hall, l0, l5, l6, l7⟩
    have hs := A.sz k
    have hat0 := A.at0 k (by (first | lia | omega))
    have hat1 := A.at0 (k + 1) (by (first | lia | omega))
    have has := at_succ (q := q) (r := r) (k := k)
    generalize hS : q + (if decide ((k : Int) < r) then 1 else 0) = S at hs has
    have hq1 := sliceL_mid (xs := ps) (a := atI q r k) (b := atI q r k + S) hat0.1 (by unfold halfI at hs; (first | lia | omega)) (by rw [← has]; exact hat1.2)
    refine c_let hM (v := .int S) (opt_of l0 (opt_of l5 (opt_if ⟨hm0, Int.lt_of_le_of_lt hm1 (by decide)⟩ (opt_of l0 (opt_of l5 (opt_if hm0 ⟨rfl, by rw [A.hq, A.hr, hS]⟩)))))) ?_
    refine c_push hM l6 (v := .tup (sliceL ps (atI q r k) (some (atI q r k + S)))) (opt_of l0 (opt_of l7 (opt_of l7 r2))) (upd_self _ _ _) (by rw [List.length_map, hlen]; unfold big; (first | lia | omega)) (upd_upd _ _ _ _) ?_
    refine c_let hM (r := .nil) (v := .int (atI q r (k + 1))) (opt_of l7 ⟨rfl, by rw [has]⟩) ?_
    refine ⟨rs ++ [sliceL ps (atI q r k) (some (atI q r k + S))], by rw [List.map_append]; rfl, by rw [List.length_append, hlen]; rfl, ?_, ?_, l0, l5, l6, rfl⟩
    · rw [List.flatten_append, hfl, has]
      show _ ++ (_ ++ []) = _
      rw [List.append_nil, hq1.2.2]
    · intro x hx
      rcases List.mem_append.mp hx with hx | hx
      · exact hall x hx
      · replace hx := List.mem_singleton.mp hx; subst hx; refine hq1.2.1 ▸ ?_; (first | lia | omega)
  · rintro σ' ls' ⟨rs, rfl, hlen, hfl, hall, l0, l5, l6, l7⟩
    refine cut_freezeL l6 (upd_self _ _ _) ?_
    refine swps_at (del_upd ha) (c_ret hM (h rs ?_ hall (by (first | lia | omega))))
    rw [hfl, A.fin]; exact List.take_length
end

section
open PySem PySem.W PySem.Calls PyProof.Rows
set_option maxRecDepth 100000
set_option linter.unusedSimpArgs false
set_option linter.unusedVariables false
/-! tree_by -/
noncomputable def numF {h : Nat} (d : Int) : Int → List (List (E h)) → List (E (h + 1))
  | _, [] => []
  | n, c :: cs => nE n c :: numF d (n + d) cs
noncomputable def hdF {h : Nat} (G : List (E (h + 1))) : Dct := G.map fun x => (numE h x, blkT h (kidE h x))
theorem num_snoc {h : Nat} {d : Int} {c : List (E h)} : ∀ {cs : List (List (E h))} {n : Int}, numF d n (cs ++ [c]) = numF d n cs ++ [nE (n + d * (cs.length : Nat)) c]
  | [], n => by show [nE n c] = [nE (n + d * 0) c]; rw [Int.mul_zero, Int.add_zero]
  | x :: cs, n => by
    show nE n x :: numF d (n + d) (cs ++ [c]) = nE n x :: (numF d (n + d) cs ++ _)
    rw [num_snoc, show n + d + d * (cs.length : Int) = n + d * ((cs.length + 1 : Nat) : Int) by rw [Int.natCast_add, Int.mul_add]; (first | lia | omega)]; rfl
theorem num_kid {h : Nat} {d : Int} : ∀ {cs : List (List (E h))} {n : Int}, kidF h (numF d n cs) = cs.flatten
  | [], _ => rfl
  | c :: cs, n => by show c ++ kidF h (numF d (n + d) cs) = c ++ cs.flatten; rw [num_kid]
theorem num_len {h : Nat} {d : Int} : ∀ {cs : List (List (E h))} {n : Int}, (numF d n cs).length = cs.length
  | [], _ => rfl
  | c :: cs, n => congrArg (· + 1) (num_len (cs := cs))
theorem num_keys {h : Nat} {d : Int} (hd : 1 ≤ d) : ∀ {cs : List (List (E h))} {n : Int}, (keysD (hdF (numF d n cs))).Nodup ∧ ∀ j ∈ keysD (hdF (numF d n cs)), n ≤ j ∧ j < n + d * (cs.length : Nat)
  | [], n => ⟨.nil, fun j hj => (List.not_mem_nil hj).elim⟩
  | c :: cs, n => by
    obtain ⟨h1, h2⟩ := num_keys hd (cs := cs) (n := n + d)
    have e : n + d * ((c :: cs).length : Int) = n + d + d * (cs.length : Int) := by rw [List.length_cons, Int.natCast_add, Int.mul_add]; (first | lia | omega)
    have h0 := Int.mul_nonneg (show 0 ≤ d by (first | lia | omega)) (Int.natCast_nonneg cs.length)
    refine ⟨List.nodup_cons.mpr ⟨fun q => ?_, h1⟩, fun j hj => ?_⟩
    · have : n + d ≤ n := (h2 n q).1
      (first | lia | omega)
    · rw [e]
      rcases List.mem_cons.mp hj with q | hj
      · have q : j = n := q
        (first | lia | omega)
      · have := h2 j hj; (first | lia | omega)
theorem num_perm {h : Nat} : ∀ {G : List (E (h + 1))}, (hdF G ++ bksF h (kidF h G)).Perm (bksF (h + 1) G)
  | [] => .nil
  | x :: G => by
    show ((numE h x, blkT h (kidE h x)) :: (hdF G ++ bksF h (kidE h x ++ kidF h G))).Perm (((numE h x, blkT h (kidE h x)) :: bksF h (kidE h x)) ++ bksF (h + 1) G)
    rw [bksF_app, List.cons_append]
    refine List.Perm.cons _ ?_
    refine List.Perm.trans ?_ ((num_perm (G := G)).append_left _)
    rw [← List.append_assoc, ← List.append_assoc]
    exact (List.perm_append_comm (l₁ := hdF G) (l₂ := bksF h (kidE h x))).append_right _
theorem unflat {h : Nat} : ∀ {rs : List (List V)} {F : List (E h)}, rs.flatten = rowE h F → ∃ cs : List (List (E h)), rs = cs.map (rowE h) ∧ cs.flatten = F
  | [], F, e => by
    cases F with
    | nil => exact ⟨[], rfl, rfl⟩
    | cons x F => exact absurd (congrArg List.length e) (by show ¬ 0 = _ + 1; exact (Nat.succ_ne_zero _).symm)
  | r :: rs, F, e => by
    obtain ⟨F1, F2, rfl, e1, e2⟩ := List.map_eq_append_iff.mp (show F.map (entE h) = r ++ rs.flatten from e.symm)
    obtain ⟨cs, rfl, e4⟩ := unflat (rs := rs) (F := F2) e2.symm
    exact ⟨F1 :: cs, by rw [← e1]; rfl, by rw [← e4]; rfl⟩
/-- the tree so far: a forest whose blocks stand in the dict -/
structure Bl (w : Int) (ps : List V) {h : Nat} (F : List (E h)) (ds : Dct) (num : Int) : Prop where
  wf : ∀ x ∈ F, WfE w h x
  prs : prsF h F = ps
  bks : ds.Perm (bksF h F)
  nd : (keysD ds).Nodup
  lt : ∀ j ∈ keysD ds, 0 < j ∧ j < num
  two : h ≠ 0 → 2 ≤ F.length
theorem Bl.step {w : Int} {ps : List V} {h : Nat} {F : List (E h)} {ds : Dct} {num d : Int} {cs : List (List (E h))} (b : Bl w ps F ds num) (hd : 1 ≤ d) (hn : 0 < num) (e : cs.flatten = F) (hr : ∀ c ∈ cs, halfI w ≤ c.length ∧ (c.length : Int) ≤ w) (h2 : 2 ≤ cs.length) :
    Bl w ps (numF d num cs) (ds ++ hdF (numF d num cs)) (num + d * (cs.length : Nat)) := by
  obtain ⟨k1, k2⟩ := num_keys hd (cs := cs) (n := num)
  have h0 := Int.mul_nonneg (show 0 ≤ d by (first | lia | omega)) (Int.natCast_nonneg cs.length)
  refine ⟨?_, ?_, ?_, ?_, ?_, fun _ => by rw [num_len]; exact h2⟩
  · have : ∀ {cs : List (List (E h))} {n : Int}, (∀ c ∈ cs, (halfI w ≤ c.length ∧ (c.length : Int) ≤ w) ∧ ∀ x ∈ c, WfE w h x) → ∀ x ∈ numF d n cs, WfE w (h + 1) x := fun {cs} => by
      induction cs with
      | nil => exact fun _ x hx => (List.not_mem_nil hx).elim
      | cons c cs ih =>
        intro n hc x hx
        rcases List.mem_cons.mp hx with rfl | hx
        · exact hc c (.head _)
        · exact ih (fun c h => hc c (.tail _ h)) x hx
    exact this fun c hc => ⟨hr c hc, fun x hx => b.wf x (e ▸ List.mem_flatten.mpr ⟨c, hc, hx⟩)⟩
  · rw [prs_kid, num_kid, e]; exact b.prs
  · refine List.Perm.trans ?_ num_perm
    rw [num_kid, e]
    exact (b.bks.append_right _).trans List.perm_append_comm
  · rw [keys_app]
    exact List.nodup_append.mpr ⟨b.nd, k1, fun x hx y hy q => by have := (b.lt x hx).2; have := (k2 y hy).1; (first | lia | omega)⟩
  · intro j hj
    rw [keys_app] at hj
    rcases List.mem_append.mp hj with hj | hj
    · have := b.lt j hj; (first | lia | omega)
    · have := k2 j hj; (first | lia | omega)
theorem half_len {w : Int} (hh : 2 ≤ halfI w) : ∀ {rs : List (List V)}, (∀ r ∈ rs, halfI w ≤ r.length ∧ (r.length : Int) ≤ w) → 2 * rs.length ≤ rs.flatten.length
  | [], _ => Nat.le_refl _
  | r :: rs, h => by
    have h1 := (h r (.head _)).1
    have h2 := half_len hh fun x hx => h x (.tail _ hx)
    rw [List.flatten_cons, List.length_append, List.length_cons]; (first | lia | omega)
theorem Bl.fin {w : Int} {ps : List V} {h : Nat} {F : List (E h)} {ds : Dct} {num : Int} (b : Bl w ps F ds num) (hw : 3 ≤ w) (hw2 : w ≤ 64) (hr : Ris ps) (hl : ps.length ≤ 1300) (hm : (F.length : Int) ≤ w) :
    Tr w (putD 0 (blkT h F) ds) ((0, F) : T h) ∧ (putD 0 (blkT h F) ds).Perm (bksE (h + 1) ((0, F) : T h)) ∧ (∀ q ∈ putD 0 (blkT h F) ds, Pv 3 q.2) := by
  have h0 : (0 : Int) ∉ keysD ds := fun q => absurd (b.lt 0 q).1 (Int.lt_irrefl 0)
  have e : putD 0 (blkT h F) ds = ds ++ [(0, blkT h F)] := put_new (lookD_none.mpr h0)
  have hp : (putD 0 (blkT h F) ds).Perm (bksE (h + 1) ((0, F) : T h)) := by
    rw [e]; exact (List.perm_append_singleton _ _).trans (b.bks.cons _)
  have nd : (keysD (putD 0 (blkT h F) ds)).Nodup := nodup_put b.nd
  have nd2 : (keysD (bksE (h + 1) ((0, F) : T h))).Nodup := (hp.map (fun q : Int × V => q.1)).nodup_iff.mp nd
  refine ⟨⟨hw, hw2, ⟨rfl, b.two, hm, b.wf⟩, by rw [b.prs]; exact hr, nd2, fun q hq => mem_lookD nd (hp.mem_iff.mpr hq), by rw [b.prs]; exact Nat.le_trans hl (by decide)⟩, hp, fun q hq => ?_⟩
  have : ∀ {h : Nat} {x : E h}, WfE w h x → ∀ q ∈ bksE h x, Pv 3 q.2 := fun {h} => by
    induction h with
    | zero => exact fun _ q hq => (List.not_mem_nil hq).elim
    | succ h ih =>
      intro x hx q hq
      rcases List.mem_cons.mp hq with rfl | hq
      · exact pv_blk hx.2
      · obtain ⟨y, hy, hq⟩ := List.mem_flatMap.mp hq
        exact ih (hx.2 y hy) q hq
  rcases List.mem_cons.mp (hp.mem_iff.mp hq) with rfl | hq
  · exact pv_blk b.wf
  · obtain ⟨y, hy, hq⟩ := List.mem_flatMap.mp hq
    exact this (b.wf y hy) q hq
inductive tbyS (xs : List V) (Q : Post) (σ : View)  : Prop
  | mk (ps w c) : xs = [.lst ps, .int w, .int c] → 0 ≤ c → 3 ≤ w → w ≤ 64 → ps.length ≤ 1300 → (∀ p ∈ ps, ∃ k s, p = .tup [.int k, .str s]) → Ris ps → (∀ (es : Dct) (H : Nat) (top : T H), Tr w es top → es.Perm (bksE (H + 1) top) → (∀ q ∈ es, Pv 3 q.2) → prsF H top.2 = ps → Q (.dct es) σ) → tbyS xs Q σ
inductive TbI (w c : Int) (ps : List V) (a : Addr) (σ : View) (n : Nat) (σ' : View) (ls' : Ls) : Prop
  | mk (h : Nat) (F : List (E h)) (ds : Dct) (num : Int) : σ' = σ.upd a (.dict false ds) → Bl w ps F ds num → 0 < num → n = F.length → ls' 0 = some (.lst (rowE h F)) → ls' 1 = some (.int w) → ls' 2 = some (.int c) → ls' 3 = some (.ref a) → ls' 4 = some (.str (kindT h)) → ls' 5 = some (.int num) → TbI w c ps a σ n σ' ls'
inductive TbX (w : Int) {h' : Nat} (F : List (E h')) (xs : List V) : Prop
  | mk (cs : List (List (E h'))) : xs = cs.map (fun l => .tup (rowE h' l)) → cs.flatten = F → (∀ r ∈ cs, halfI w ≤ r.length ∧ (r.length : Int) ≤ w) → 2 ≤ cs.length → 2 * cs.length ≤ F.length → TbX w F xs
inductive TbJ (w c : Int) {h' : Nat} (cs : List (List (E h'))) (ds : Dct) (num d : Int) (a b' : Addr) (σ : View) (k : Nat) (σ' : View) (ls' : Ls) : Prop
  | mk : σ' = (σ.upd a (.dict false (ds ++ hdF (numF d num (cs.take k))))).upd b' (.list false (rowE (h' + 1) (numF d num (cs.take k)))) → ls' 1 = some (.int w) → ls' 2 = some (.int c) → ls' 3 = some (.ref a) → ls' 4 = some (.str (kindT h')) → ls' 5 = some (.int (num + d * (k : Int))) → ls' 6 = some (.ref b') → TbJ w c cs ds num d a b' σ k σ' ls'
theorem tree_ok (Φ : Spec) (hM : SpecMono Φ) (Gc : Nat → V) (hV : ∀ xs Q σ, lvlS xs Q σ → Φ 21 xs Q σ) {xs : List V} {Q : Post} {σ : View} (h : tbyS xs Q σ) : xs.length = 3 ∧ swps Φ Gc m_law_tree_by (fun σ' _ => Q .none σ') Q σ (argLs xs) := by
  obtain ⟨ps, w, c, rfl, hc, hw3, hw, hpl, hgood, hris, h⟩ := h
  have hh := two_half hw3
  refine ⟨rfl, cut_dict fun a ha => ?_⟩
  refine c_let hM (v := .str sLeaf) r2 ?_
  refine c_let hM (v := .int (1 + c % 3)) r2 ?_
  refine c_loop hM (TbI w c ps a σ)
    ⟨_, 0, (ps : List V), [], _, rfl, ⟨hgood, prs0 ps, List.Perm.of_eq (bks0 ps).symm, .nil, fun j hj => (List.not_mem_nil hj).elim, fun q => absurd rfl q⟩, by (first | lia | omega), rfl, congrArg (fun l : List V => some (V.lst l)) (row0 ps).symm, rfl, rfl, rfl, rfl, rfl⟩ ?_
  rintro n σ' ls' ⟨h', F, ds, num, rfl, b, hnum, rfl, l0, l1, l2, l3, l4, l5⟩
  have hfew := forest_few hw3 b.wf
  rw [b.prs] at hfew
  have hdl : ds.length = (bksF h' F).length := b.bks.length_eq
  refine opt_of l0 ?_
  skip
  refine opt_of l1 ?_
  sizeOf_list_dec
  rw [row_len8]
  by_cases q : w < (F.length : Int)
  · rw [decide_eq_true q]
    refine c_newl hM (xs := []) r2 (Nat.zero_le _) fun b' hb => ?_
    have hab : a ≠ b' := fun e => by rw [← e, upd_self] at hb; cases hb
    have hbσ : ∀ x, (σ.upd a x) b' = none := fun x => by rw [upd_ne hab.symm] at hb ⊢; exact hb
    refine c_for_x hM (TbX w F) ?_ ?_
    · refine opt_of l0 (opt_of l1 (opt_of l2 ?_))
      skip
      refine hV _ _ _ ⟨rowE h' F, w, c / 3, rfl, hw3, hw, by rw [row_len8]; exact q, by rw [row_len8]; (first | lia | omega), fun rs h1 h2 h3 => ?_⟩
      have hl2 := half_len hh h2
      obtain ⟨cs, rfl, h5⟩ := unflat h1
      rw [h1, row_len8, List.length_map] at hl2
      refine ⟨rfl, _, rfl, cs, by rw [List.map_map]; rfl, h5, fun r hr => ?_, by rw [List.length_map] at h3; exact h3, hl2⟩
      have := h2 _ (List.mem_map_of_mem hr)
      rw [row_len8] at this; exact this
    rintro _ ⟨cs, rfl, hf, hr, h2, h2l⟩
    have hd1 : 1 ≤ 1 + c / 5 % 2 := by (first | lia | omega)
    generalize hd : 1 + c / 5 % 2 = d at hd1
    have hstep := b.step hd1 hnum hf hr h2
    have hdlt := Int.mul_nonneg (show 0 ≤ d by (first | lia | omega)) (Int.natCast_nonneg cs.length)
    refine ⟨TbJ w c cs ds num d a b' σ, ⟨?_, l1, l2, l3, l4, ?_, rfl⟩, ?_, ?_⟩
    · show _ = (σ.upd a (.dict false (ds ++ []))).upd b' _; rw [List.append_nil]; rfl
    · show ls' 5 = some (.int (num + d * 0)); rw [l5, Int.mul_zero, Int.add_zero]
    · rintro k v hv σ' ls' ⟨rfl, l1, l2, l3, l4, l5, l6⟩
      obtain ⟨r, hr', rfl⟩ := Option.map_eq_some_iff.mp ((List.getElem?_map ..).symm.trans hv)
      have hkl : k < cs.length := (List.getElem?_eq_some_iff.mp hr').1
      have hrm : r ∈ cs := List.mem_iff_getElem?.mpr ⟨k, hr'⟩
      have htk : cs.take (k + 1) = cs.take k ++ [r] := by rw [List.take_add_one, hr']; rfl
      have hla : (cs.take k).length = k := by rw [List.length_take]; (first | lia | omega)
      have hne : r ≠ [] := ne_of_len (by have := (hr r hrm).1; (first | lia | omega))
      obtain ⟨kk, y, rr, e1, e2⟩ := ent_cons (n := num + d * (k : Int)) hne fun x hx => b.wf x (hf ▸ List.mem_flatten.mpr ⟨r, hrm, hx⟩)
      have hfr : num + d * (k : Int) ∉ keysD (ds ++ hdF (numF d num (cs.take k))) := fun hm => by
        have h0 := Int.mul_nonneg (show 0 ≤ d by (first | lia | omega)) (Int.natCast_nonneg k)
        rw [keys_app] at hm
        rcases List.mem_append.mp hm with hm | hm
        · have := (b.lt _ hm).2; (first | lia | omega)
        · have := ((num_keys hd1 (cs := cs.take k) (n := num)).2 _ hm).2
          rw [hla] at this; exact Int.lt_irrefl _ this
      have hhl : (hdF (numF d num (cs.take k))).length = k := by unfold hdF; rw [List.length_map, num_len, hla]
      refine c_setd hM (v := blkT h' r) (opt_of l4 r2) (opt_of l3 r2) (opt_of l5 r2) (upd_other hab) (by rw [List.length_append, hhl]; unfold big; (first | lia | omega)) ((upd_swap hab).trans (by rw [put_new (lookD_none.mpr hfr)])) ?_
      refine c_push hM l6 (v := entE (h' + 1) (nE (num + d * (k : Int)) r)) (by sizeOf_list_dec; rw [e1]; exact opt_of (r_it_t0 (σ := σ)) (opt_of rfl (opt_of l5 ⟨rfl, e2⟩))) (upd_self _ _ _) (by rw [row_len8, num_len, hla]; unfold big; (first | lia | omega)) (upd_upd _ _ _ _) ?_
      refine c_let hM (r := .nil) (v := .int (num + d * ((k + 1 : Nat) : Int))) (opt_of l5 (opt_of l2 ⟨rfl, by show V.int ((num + d * (k : Int)) + 1 + c / 5 % 2) = _; rw [Int.natCast_add, Int.mul_add, ← hd]; congr 1; (first | lia | omega)⟩)) ?_
      refine ⟨?_, l1, l2, l3, l4, rfl, l6⟩
      rw [htk, num_snoc, hla, rowE_app, show hdF (numF d num (cs.take k) ++ [nE (num + d * (k : Int)) r]) = hdF (numF d num (cs.take k)) ++ [(num + d * (k : Int), blkT h' r)] from List.map_append, ← List.append_assoc]; rfl
    · rintro σ' ls' hj
      rw [List.length_map] at hj
      obtain ⟨rfl, l1, l2, l3, l4, l5, l6⟩ := hj
      rw [List.take_length]
      refine cut_freezeL l6 (upd_self _ _ _) ?_
      refine swps_at (del_upd (hbσ _)) ?_
      refine c_any hM (opt_of rfl ?_)
      refine c_any hM (r := .nil) ?_
      exact ⟨(numF d num cs).length, by rw [num_len]; (first | lia | omega), h' + 1, numF d num cs, _, _, rfl, hstep, by (first | lia | omega), rfl, rfl, l1, l2, l3, rfl, l5⟩
  · rw [decide_eq_false q]
    obtain ⟨f1, f2, f3⟩ := b.fin hw3 hw hris hpl (Int.not_lt.mp q)
    refine c_setd hM (v := blkT h' F) (opt_of l4 (opt_of l0 r2)) (opt_of l3 r2) r2 (upd_self _ _ _) (by unfold big; (first | lia | omega)) (upd_upd _ _ _ _) ?_
    refine cut_freezeD l3 (upd_self _ _ _) ?_
    refine swps_at (del_upd ha) ?_
    exact c_ret hM (h _ h' _ f1 f2 f3 b.prs)
end

section
open PySem PySem.W PySem.Calls PyProof.Rows
set_option maxRecDepth 100000
set_option linter.unusedSimpArgs false
set_option linter.unusedVariables false
/-! the first free numbers, by a range -/
noncomputable def flN (used : List Int) (N : Nat) : List Int := ((List.range N).map fun (k : Nat) => (1 : Int) + k).filter fun j => decide (j ∉ used)
theorem fl_ris {used : List Int} {N : Nat} : (flN used N).Pairwise (· < ·) := by
  refine List.Pairwise.filter _ (List.pairwise_map.mpr (List.pairwise_lt_range.imp fun {a b} h => ?_))
  show (1 : Int) + a < 1 + b
  (first | lia | omega)
theorem mem_fl {used : List Int} {N : Nat} {j : Int} : j ∈ flN used N ↔ (1 ≤ j ∧ j ≤ N) ∧ j ∉ used := by
  unfold flN
  rw [List.mem_filter, decide_eq_true_iff, List.mem_map]
  refine and_congr ⟨fun h => ?_, fun h => ⟨(j - 1).toNat, List.mem_range.mpr (by (first | lia | omega)), by (first | lia | omega)⟩⟩ Iff.rfl
  obtain ⟨k, hk, rfl⟩ := h
  have := List.mem_range.mp hk
  (first | lia | omega)
theorem fl_frs {used : List Int} {N : Nat} : ∀ {m : Nat}, m ≤ (flN used N).length → (flN used N).take m = frs used m
  | 0, _ => rfl
  | m + 1, h => by
    have ih := fl_frs (used := used) (N := N) (m := m) (Nat.le_of_succ_le h)
    have e : (flN used N)[m]? = some (flN used N)[m] := List.getElem?_eq_getElem h
    have hx : (flN used N)[m] ∈ flN used N := List.getElem_mem h
    have hlt : ∀ i (hi : i < (flN used N).length), i < m ↔ (flN used N)[i] < (flN used N)[m] := fun i hi => by
      constructor
      · exact fun q => List.pairwise_iff_getElem.mp fl_ris i m hi h q
      · intro q
        rcases Nat.lt_trichotomy i m with r | r | r
        · exact r
        · subst r; exact absurd q (Int.lt_irrefl _)
        · exact absurd (List.pairwise_iff_getElem.mp fl_ris m i h hi r) (Int.not_lt.mpr (Int.le_of_lt q))
    generalize hxd : (flN used N)[m] = x at e hx hlt
    rw [List.take_add_one, e, ih]
    show _ ++ [x] = frs used m ++ [frN (used ++ frs used m)]
    rw [frN_unique (used := used ++ frs used m) (m := x) ?_ (mem_fl.mp hx).1.1 fun y y1 y2 => ?_]
    · intro q
      rcases List.mem_append.mp q with q | q
      · exact (mem_fl.mp hx).2 q
      · rw [← ih] at q
        obtain ⟨i, hi, ei⟩ := List.mem_take_iff_getElem.mp q
        have hi2 : i < (flN used N).length := Nat.lt_of_lt_of_le hi (Nat.min_le_right _ _)
        have := (hlt i hi2).mp (Nat.lt_of_lt_of_le hi (Nat.min_le_left _ _))
        rw [ei] at this; exact Int.lt_irrefl _ this
    · by_cases q : y ∈ used
      · exact List.mem_append.mpr (.inl q)
      · refine List.mem_append.mpr (.inr ?_)
        have hy : y ∈ flN used N := mem_fl.mpr ⟨⟨y1, by have := (mem_fl.mp hx).1.2; (first | lia | omega)⟩, q⟩
        obtain ⟨i, hi, ei⟩ := List.mem_iff_getElem.mp hy
        have := (hlt i hi).mpr (by rw [ei]; exact y2)
        rw [← ih]
        exact List.mem_take_iff_getElem.mpr ⟨i, Nat.lt_min.mpr ⟨this, hi⟩, ei⟩
theorem fl_len {B : Dct} {m : Nat} : m ≤ (flN (keysD B) (B.length + m)).length := by
  have h1 : ∀ (l : List Int), (l.filter fun j => decide (j ∉ keysD B)).length + (l.filter fun j => decide (j ∈ keysD B)).length = l.length := fun l => by
    induction l with
    | nil => rfl
    | cons x l ih =>
      by_cases q : x ∈ keysD B
      · rw [List.filter_cons_of_neg (by rw [decide_eq_false (fun r => r q)]; exact Bool.false_ne_true), List.filter_cons_of_pos (p := fun j => decide (j ∈ keysD B)) (decide_eq_true q), List.length_cons, List.length_cons, ← ih]; rfl
      · rw [List.filter_cons_of_pos (p := fun j => decide (j ∉ keysD B)) (decide_eq_true q), List.filter_cons_of_neg (by rw [decide_eq_false q]; exact Bool.false_ne_true), List.length_cons, List.length_cons, ← ih]; (first | lia | omega)
  have h2 := h1 ((List.range (B.length + m)).map fun (k : Nat) => (1 : Int) + k)
  rw [List.length_map, List.length_range] at h2
  have h3 := len_le_of (a := (((List.range (B.length + m)).map fun (k : Nat) => (1 : Int) + k).filter fun j => decide (j ∈ keysD B)).map fun j => (j, V.none)) (b := B) (by
      unfold keysD
      rw [List.map_map]
      show (List.map id _).Nodup
      rw [List.map_id]
      refine List.Pairwise.filter _ (List.pairwise_map.mpr (List.nodup_range.imp fun {a b} h => ?_))
      show (1 : Int) + a ≠ 1 + b
      (first | lia | omega)) (fun j hj => by
      have := isSome_mem.mp hj
      obtain ⟨p, hp, rfl⟩ := List.mem_map.mp this
      obtain ⟨x, hx, rfl⟩ := List.mem_map.mp hp
      exact isSome_mem.mpr (of_decide_eq_true (List.mem_filter.mp hx).2))
  rw [List.length_map] at h3
  have h4 : (flN (keysD B) (B.length + m)).length = _ := rfl
  unfold flN at h4 ⊢
  (first | lia | omega)
theorem frs_eq {B : Dct} {m : Nat} : (flN (keysD B) (B.length + m)).take m = frs (keysD B) m := fl_frs fl_len
theorem frs_ris {B : Dct} {m : Nat} : (frs (keysD B) m).Pairwise (· < ·) := by rw [← frs_eq]; exact fl_ris.sublist (List.take_sublist _ _)
theorem frs_len {used : List Int} : ∀ {m : Nat}, (frs used m).length = m
  | 0 => rfl
  | m + 1 => by show (frs used m ++ [_]).length = _; rw [List.length_append, frs_len]; rfl
end

section
open PySem PySem.W PySem.Calls PyProof.Rows
set_option maxRecDepth 100000
set_option linter.unusedSimpArgs false
set_option linter.unusedVariables false
theorem ints_map : ∀ {ks : List Int}, ints? (ks.map .int) = some ks
  | [] => rfl
  | k :: ks => by show (ints? (ks.map .int)).map (k :: ·) = _; rw [ints_map]; rfl
/-! numbered -/
theorem is_none {σ : View} {v : V} : pureOp .is σ [v, .none] = some (.bool (!notNone v)) := by cases v <;> rfl
theorem rangeX2 {a b : Int} (h1 : smallI a = true) (h2 : smallI b = true) : rangeXs [.int a, .int b] = some ((rangeL a b 1).map .int) := if_pos (by rw [h1, h2]; rfl)
theorem w_filt2 {Φ : Spec} (hM : SpecMono Φ) {G : Nat → V} {ls : Ls} {e1 e2 t : ME} {x : Nat} {N : Nat} {Q : Post} {σ : View} (p : V → Bool) (he : cwps Φ G ls (.cons e1 (.cons e2 .nil)) (fun vs σ' => σ' = σ ∧ vs = [.int 1, .int ((N : Int) + 1)]) σ) (hx : N ≤ 10000)
    (h : ∀ v ∈ (List.range N).map fun (k : Nat) => V.int ((1 : Int) + k), ewp Φ G (ls.set x v) t (fun d σ' => σ' = σ ∧ d = .bool (p v)) σ) (hQ : Q (.lst (((List.range N).map fun (k : Nat) => V.int ((1 : Int) + k)).filter p)) σ) : ewp Φ G ls (.comp false (.var x) (.one x) (.range (.cons e1 (.cons e2 .nil))) (.cons t .nil)) Q σ := by
  refine ewps_mono (Q' := fun vs σ' => itWp 1 vs (fun xs u σ₁ => _) σ') hM _ (cwps_e hM _ he) ?_
  rintro vs σ' ⟨e1, e2⟩
  subst e1; subst e2
  have e : rangeXs [.int 1, .int ((N : Int) + 1)] = some ((List.range N).map fun (k : Nat) => V.int ((1 : Int) + k)) := by
    have s1 : smallI 1 = true := smallI_of (by (first | lia | omega)) (by (first | lia | omega))
    have s2 : smallI ((N : Int) + 1) = true := smallI_of (by (first | lia | omega)) (by (first | lia | omega))
    rw [rangeX2 s1 s2, rangeL1, List.map_map, show ((N : Int) + 1 - 1).toNat = N by (first | lia | omega)]; rfl
  refine ⟨_, e, comp_fm hM p (fun v => v) rfl rfl (by rw [List.length_map, List.length_range]; unfold big; (first | lia | omega)) (fun v hv => ewp_mono hM t (h v hv) ?_) (by rw [List.map_id']; exact hQ)⟩
  rintro d σ₂ ⟨rfl, rfl⟩
  refine ⟨p v, rfl, ?_⟩
  cases q : p v with
  | true => exact ⟨rfl, rfl, fun _ => ⟨v, if_pos rfl, rfl, rfl⟩⟩
  | false => exact ⟨rfl, rfl, fun h => ff h⟩
noncomputable def kV (fd : Dct) : List V := fd.map fun p => .int p.1
inductive nbrS (xs : List V) (Q : Post) (σ : View)  : Prop
  | mk (B fd : Dct) (m : Nat) : xs = [.dct B, .dct fd] → (keysD fd).Nodup → fd.length ≤ 1000 → B.length ≤ 5000 → m < 60 → (keysD fd).filter (fun j => (lookD j B).isNone) = frs (keysD B) m → (m = 0 ∨ ∀ q ∈ fd, notNone q.2 = true) → (∀ q ∈ fd, Pv 3 q.2 ∧ Pv 3 ((lookD q.1 B).getD .none) ∧ q.2 ≠ (lookD q.1 B).getD .none) → Q (.bool true) σ → nbrS xs Q σ
inductive NbI (B fd : Dct) (gl : List V) (m : Nat) (σ : View) (k : Nat) (σ' : View) (ls' : Ls) : Prop
  | mk : σ' = σ → ls' 0 = some (.dct B) → ls' 1 = some (.dct fd) → ls' 2 = some (.lst gl) → ls' 4 = some (.lst ((frs (keysD B) m).map .int)) → NbI B fd gl m σ k σ' ls'
theorem nbr_ok (Φ : Spec) (hM : SpecMono Φ) (Gc : Nat → V) (hW : ∀ xs Q σ, wholS xs Q σ → Φ 15 xs Q σ) {xs : List V} {Q : Post} {σ : View} (h : nbrS xs Q σ) : xs.length = 2 ∧ swps Φ Gc m_law_numbered (fun σ' _ => Q .none σ') Q σ (argLs xs) := by
  obtain ⟨B, fd, m, rfl, nd, hfl, hBl, hm, hnews, hgone, hall, h⟩ := h
  have hkl : (kV fd).length ≤ big := by unfold kV; rw [List.length_map]; unfold big; (first | lia | omega)
  refine ⟨rfl, c_guard hM ?_ ?_⟩
  · skip
    exact r2
  refine c_assign hM (fun d => ∃ l, d = .lst l ∧ (l = [] ∨ m = 0)) ?_ ?_
  · refine w_filt hM (xs := kV fd) (fun v => match v with | .int n => !notNone ((lookD n fd).getD .none) | _ => false) (cwp_e hM _ ⟨rfl, .inl rfl⟩) hkl (fun v hv => cwp_e hM _ ?_) ?_
    · obtain ⟨q, hq, rfl⟩ := List.mem_map.mp hv
      skip
      refine opt_of (mem_lookD nd (v := q.2) hq) ?_
      refine opt_of (is_none (σ := σ)) ⟨rfl, ?_⟩
      show _ = V.bool (!notNone ((lookD q.1 fd).getD .none))
      rw [mem_lookD nd (v := q.2) hq]; rfl
    · refine ⟨rfl, _, rfl, ?_⟩
      rcases hgone with e | e
      · exact .inr e
      · refine .inl (List.filter_eq_nil_iff.mpr fun v hv => ?_)
        obtain ⟨q, hq, rfl⟩ := List.mem_map.mp hv
        show ¬ (!notNone ((lookD q.1 fd).getD .none)) = true
        rw [mem_lookD nd (v := q.2) hq]
        show ¬ (!notNone q.2) = true
        rw [e q hq]; exact Bool.false_ne_true
  rintro _ ⟨gl, rfl, hgl⟩
  refine c_let hM (v := .lst ((frs (keysD B) m).map .int)) ?_ ?_
  · sizeOf_list_dec
    refine w_filt hM (xs := kV fd) (fun v => match v with | .int n => (lookD n B).isNone | _ => false) (cwp_e hM _ ⟨rfl, .inl rfl⟩) hkl (fun v hv => cwp_e hM _ ?_) ?_
    · obtain ⟨q, hq, rfl⟩ := List.mem_map.mp hv
      sizeOf_list_dec
      refine ⟨rfl, ?_⟩
      show _ = V.bool (lookD q.1 B).isNone
      cases lookD q.1 B <;> rfl
    · have e : (kV fd).filter (fun v => match v with | .int n => (lookD n B).isNone | _ => false) = (frs (keysD B) m).map .int := by
        rw [← hnews]; unfold kV keysD; rw [List.filter_map, List.filter_map, List.map_map]; rfl
      rw [e]
      refine opt_of (a := .lst ((frs (keysD B) m).map .int)) ?_ r2
      show (ints? ((frs (keysD B) m).map V.int)).bind _ = _
      rw [ints_map]
      show (sortV (frs (keysD B) m)).map _ = _
      unfold sortV
      rw [if_pos ⟨frs_ris, by rw [frs_len]; (first | lia | omega)⟩]; rfl
  refine c_for_l hM (xs := kV fd) (NbI B fd gl m σ) ⟨rfl, .inl rfl⟩ ⟨rfl, rfl, rfl, rfl, rfl⟩ ?_ ?_
  · rintro k v hv σ' ls' ⟨rfl, l0, l1, l2, l4⟩
    obtain ⟨q, hq, rfl⟩ := List.mem_map.mp (List.mem_iff_getElem?.mpr ⟨k, hv⟩)
    obtain ⟨a1, a2, a3⟩ := hall q hq
    obtain ⟨b, e1, e2⟩ := eqV_pv (σ := σ') a1 a2
    refine c_guard hM (r := .nil) ?_ ⟨rfl, l0, l1, l2, l4⟩
    skip
    refine hW _ _ _ ⟨_, rfl, ?_⟩
    sizeOf_list_dec
    refine opt_of l1 ?_
    sizeOf_list_dec
    refine opt_of (mem_lookD nd (v := q.2) hq) (opt_of l0 ⟨⟨B, rfl⟩, ?_⟩)
    sizeOf_list_dec
    refine opt_of (a := (lookD q.1 B).getD .none) rfl (opt_map e1 ?_)
    cases b with
    | true => exact absurd (e2.mp rfl) a3
    | false => exact r2
  rintro σ' ls' ⟨rfl, l0, l1, l2, l4⟩
  have hl4 : ((frs (keysD B) m).map V.int).length = m := by rw [List.length_map, frs_len]
  refine c_guard hM ?_ ?_
  · refine opt_of l2 ?_
    sizeOf_list_dec
    rcases hgl with rfl | rfl
    · exact r2
    · cases decide (0 < (gl.length : Int)) with
      | false => exact ⟨rfl, rfl⟩
      | true =>
        refine opt_of l4 ?_
        exact r2
  refine c_let hM (v := .lst ((flN (keysD B) (B.length + m)).map .int)) ?_ ?_
  · refine w_filt2 hM (N := B.length + m) (fun v => match v with | .int n => (lookD n B).isNone | _ => false) ?_ (by (first | lia | omega)) (fun v hv => cwp_e hM _ ?_) ?_
    · skip
      refine opt_of l0 ?_
      skip
      refine opt_of l4 ?_
      skip
      refine ⟨rfl, ?_⟩
      rw [hl4, List.length_map]; rfl
    · obtain ⟨k, hk, rfl⟩ := List.mem_map.mp hv
      skip
      refine opt_of l0 ?_
      refine ⟨rfl, ?_⟩
      show V.bool (!(lookD ((1 : Int) + k) B).isSome) = V.bool (lookD ((1 : Int) + k) B).isNone
      cases lookD ((1 : Int) + k) B <;> rfl
    · refine ⟨rfl, ?_⟩
      unfold flN
      rw [show ((List.range (B.length + m)).map fun (k : Nat) => V.int ((1 : Int) + k)) = ((List.range (B.length + m)).map fun (k : Nat) => (1 : Int) + k).map V.int by rw [List.map_map]; rfl, List.filter_map]
      congr 2
      refine List.filter_congr fun j _ => ?_
      show (lookD j B).isNone = decide (j ∉ keysD B)
      by_cases q : j ∈ keysD B
      · rw [decide_eq_false (fun r => r q)]
        obtain ⟨b, e⟩ := Option.isSome_iff_exists.mp (isSome_mem.mpr q)
        rw [e]; rfl
      · rw [decide_eq_true q, isNone_mem.mpr q]
  refine c_ret hM (opt_of l4 (opt_of l4 ?_))
  sizeOf_list_dec
  rw [hl4, sliceL_take (Int.natCast_nonneg _), show ((m : Nat) : Int).toNat = m from rfl, ← List.map_take, frs_eq]
  exact opt_map (eqV_refl (.lst fun x hx => by obtain ⟨j, _, rfl⟩ := List.mem_map.mp hx; exact .int j)) h
end

section
open PySem PySem.W PySem.Calls PyProof.Rows
set_option maxRecDepth 100000
set_option linter.unusedSimpArgs false
set_option linter.unusedVariables false
/-! behind, listed -/
inductive behS (xs : List V) (Q : Post) (σ : View)  : Prop
  | mk (B fd : Dct) : xs = [.dct B, .dct fd] → (keysD fd).Nodup → (keysD B).Nodup → (∀ q ∈ fd, Pv 3 q.2) → fd.length ≤ 1000 → B.length ≤ 5000 → (∀ D : Dct, (keysD D).Nodup → (∀ j, lookD j D = (lookD j fd).elim (lookD j B) noneOr) → Q (.dct D) σ) → behS xs Q σ
theorem pv_none {n : Nat} {v : V} (h : Pv n v) : (v = .none ∧ notNone v = false) ∨ (noneOr v = some v ∧ notNone v = true) := by cases h <;> first | exact .inl ⟨rfl, rfl⟩ | exact .inr ⟨rfl, rfl⟩
theorem isn_none' {σ : View} {n : Nat} {v : V} (h : Pv n v) : pureOp .isNot σ [v, .none] = some (.bool (notNone v)) := by cases h <;> rfl
inductive BhI (B fd : Dct) (a : Addr) (σ : View) (k : Nat) (σ' : View) (ls' : Ls) : Prop
  | mk (D) : σ' = σ.upd a (.dict false D) → (keysD D).Nodup → D.length ≤ 5000 + k → (∀ j, lookD j D = (lookD j (fd.take k)).elim (lookD j B) noneOr) → ls' 1 = some (.dct fd) → ls' 2 = some (.ref a) → BhI B fd a σ k σ' ls'
theorem beh_ok (Φ : Spec) (hM : SpecMono Φ) (Gc : Nat → V) {xs : List V} {Q : Post} {σ : View} (h : behS xs Q σ) : xs.length = 2 ∧ swps Φ Gc m_law_behind (fun σ' _ => Q .none σ') Q σ (argLs xs) := by
  obtain ⟨B, fd, rfl, nd, ndB, pv, hfl, hBl, h⟩ := h
  refine ⟨rfl, c_any hM ⟨B, rfl, fun a ha => ?_⟩⟩
  refine c_for_l hM (xs := kV fd) (BhI B fd a σ) ⟨rfl, .inl rfl⟩ ⟨B, rfl, ndB, hBl, fun _ => rfl, rfl, rfl⟩ ?_ ?_
  · rintro k v hv σ' ls' ⟨D, rfl, ndD, hl, hlook, l1, l2⟩
    obtain ⟨⟨n, v⟩, hq, rfl⟩ := Option.map_eq_some_iff.mp ((List.getElem?_map ..).symm.trans hv)
    have hm : (n, v) ∈ fd := List.mem_iff_getElem?.mpr ⟨k, hq⟩
    have hk : k < fd.length := (List.getElem?_eq_some_iff.mp hq).1
    have ht : fd.take (k + 1) = fd.take k ++ [(n, v)] := by rw [List.take_add_one, hq]; rfl
    have hn : lookD n (fd.take k) = none := lookD_none.mpr fun q => by
      have nd2 := nd
      rw [← List.take_append_drop (k + 1) fd, ht, keys_app, keys_app] at nd2
      exact (List.nodup_append.mp (List.nodup_append.mp nd2).1).2.2 n q n (.head _) rfl
    have hL : ∀ j, lookD j (fd.take (k + 1)) = if j = n then some v else lookD j (fd.take k) := fun j => by
      rw [ht, look_append]
      by_cases q : j = n
      · subst q; rw [hn, if_pos rfl]; show (if j = j then some v else none) = _; rw [if_pos rfl]
      · rw [if_neg q]
        show (lookD j (fd.take k)).or (if n = j then some v else none) = _
        rw [if_neg (Ne.symm q), Option.or_none]
    have hD1 := fun j => lookD_drop (j := j) (k := n) ndD
    have hdl := len_drop_le (k := n) (es := D)
    refine c_expr hM (opt_of l2 ⟨⟨D, by show dicOf _ (.ref a) = _; simp only [dicOf, upd_self]⟩, ?_⟩)
    refine ⟨D, upd_self _ _ _, ?_⟩
    refine swps_at (upd_upd _ _ _ _) ?_
    refine ctwp_t hM (opt_of l1 ?_)
    skip
    refine opt_of (mem_lookD nd hm) ?_
    refine opt_of (isn_none' (σ := σ) (pv _ hm)) ?_
    skip
    rcases pv_none (pv _ hm) with ⟨e1, e2⟩ | ⟨e1, e2⟩
    · have e1 : v = .none := e1
      rw [e2]
      refine ⟨_, rfl, nodup_drop ndD, by (first | lia | omega), fun j => ?_, l1, l2⟩
      rw [hD1, hL]
      by_cases q : j = n
      · rw [if_pos q, if_pos q, e1]; rfl
      · rw [if_neg q, if_neg q]; exact hlook j
    · rw [e2]
      refine c_set hM (r := .nil) (opt_of l1 ?_)
      skip
      refine opt_of (mem_lookD nd hm) (opt_of l2 ?_)
      have hpl := len_put_le (k := n) (v := v) (es := dropD n D)
      refine ⟨a, n, _, rfl, rfl, upd_self _ _ _, by unfold big; (first | lia | omega), _, by rw [upd_upd], nodup_put (nodup_drop ndD), by (first | lia | omega), fun j => ?_, l1, l2⟩
      rw [lookD_put, hL]
      by_cases q : j = n
      · rw [if_pos q, if_pos q]; exact e1.symm
      · rw [if_neg q, if_neg q, hD1, if_neg q]; exact hlook j
  · rintro σ' ls' ⟨D, rfl, ndD, hl, hlook, l1, l2⟩
    refine cut_freezeD l2 (upd_self _ _ _) ?_
    refine swps_at (del_upd ha) ?_
    rw [show (kV fd).length = fd.length from List.length_map _, List.take_length] at hlook
    exact c_ret hM (h D ndD hlook)
inductive lawlS (xs : List V) (Q : Post) (σ : View)  : Prop
  | mk (w : Int) (B : Dct) (H : Nat) (top : T H) (k : Int) : xs = [.dct B, .lst (prsF H top.2), .int k] → Tr w B top → Q (.bool true) σ → lawlS xs Q σ
inductive LlI (B : Dct) {H : Nat} (top : T H) (k : Int) (σ : View) (j : Nat) (σ' : View) (ls' : Ls) : Prop
  | mk : σ' = σ → ls' 0 = some (.dct B) → ls' 1 = some (.lst (prsF H top.2)) → ls' 2 = some (.int k) → ls' 3 = some (sndV ((onlyR ((prsF H top.2).take j) k).getLastD .none)) → LlI B top k σ j σ' ls'
theorem lawl_ok (Φ : Spec) (hM : SpecMono Φ) (Gc : Nat → V) (hV : ∀ xs Q σ, valS xs Q σ → Φ 6 xs Q σ) (hL : ∀ xs Q σ, lstS xs Q σ → Φ 7 xs Q σ) {xs : List V} {Q : Post} {σ : View} (h : lawlS xs Q σ) : xs.length = 3 ∧ swps Φ Gc m_law_listed (fun σ' _ => Q .none σ') Q σ (argLs xs) := by
  obtain ⟨w, B, H, top, k, rfl, tr, h⟩ := h
  have hpr : ∀ p ∈ prsF H top.2, ∃ k s, p = .tup [.int k, .str s] := fun p hp => by
    obtain ⟨x, hx, hp⟩ := List.mem_flatMap.mp hp
    exact prs_pair (tr.root.wf x hx) p hp
  have hri := tr.ris
  refine ⟨rfl, c_let hM (v := .none) r2 ?_⟩
  refine c_for_l hM (xs := prsF H top.2) (LlI B top k σ) ⟨rfl, .inl rfl⟩ ⟨rfl, rfl, rfl, rfl, rfl⟩ ?_ ?_
  · rintro j p hj σ' ls' ⟨rfl, l0, l1, l2, l3⟩
    obtain ⟨k', s, rfl⟩ := hpr p (List.mem_iff_getElem?.mpr ⟨j, hj⟩)
    have ht : (prsF H top.2).take (j + 1) = (prsF H top.2).take j ++ [.tup [.int k', .str s]] := by rw [List.take_add_one, hj]; rfl
    refine c_if_assign hM (r := .nil) (fun d => d = sndV ((onlyR ((prsF H top.2).take (j + 1)) k).getLastD .none)) ?_ ?_
    · sizeOf_list_dec
      refine opt_of l2 ?_
      sizeOf_list_dec
      rw [ht, only_app]
      by_cases q : k' = k
      · rw [decide_eq_true q, only_yes (p := .tup [.int k', .str s]) q]
        refine ⟨rfl, rfl, ?_⟩
        rw [List.getLastD_eq_getLast?, List.getLast?_concat]; rfl
      · rw [decide_eq_false q, only_no (p := .tup [.int k', .str s]) q, List.append_nil]
        exact ⟨rfl, opt_of l3 rfl⟩
    rintro _ rfl
    exact ⟨rfl, l0, l1, l2, rfl⟩
  rintro σ' ls' ⟨rfl, l0, l1, l2, l3⟩
  rw [List.take_length] at l3
  have hv : (sndV ((onlyR (prsF H top.2) k).getLastD .none) = .none ∧ onlyV (onlyR (prsF H top.2) k) = .none) ∨ ∃ s, sndV ((onlyR (prsF H top.2) k).getLastD .none) = .str s ∧ onlyV (onlyR (prsF H top.2) k) = .str s := by
    rcases only_one (k := k) hri with e | ⟨p, e⟩
    · rw [e]; exact .inl r2
    · have hp : p ∈ prsF H top.2 := (List.mem_filter.mp (show p ∈ onlyR (prsF H top.2) k by rw [e]; exact .head _)).1
      obtain ⟨k', s, rfl⟩ := hpr p hp
      rw [e]; exact .inr ⟨s, rfl, rfl⟩
  have hd : Dat 20 (.lst (prsF H top.2)) := .lst fun x hx => by
    obtain ⟨k', s, rfl⟩ := hpr x hx
    refine .tup fun y hy => ?_
    rcases List.mem_cons.mp hy with rfl | hy
    · exact .int _
    · rw [List.mem_singleton.mp hy]; exact .str _
  refine c_let hM (v := .lst (prsF H top.2)) (opt_of l0 (hL _ _ _ ⟨w, B, H, top, rfl, tr, rfl, rfl⟩)) ?_
  refine c_let hM (v := onlyV (onlyR (prsF H top.2) k)) (opt_of l0 (opt_of l2 (hV _ _ _ ⟨w, B, H, top, k, rfl, tr, rfl, rfl⟩))) ?_
  rcases hv with ⟨e1, e2⟩ | ⟨s, e1, e2⟩
  · rw [e2]
    rw [e1] at l3
    refine c_guard hM ?_ ?_
    · refine opt_of l3 ?_
      sizeOf_list_dec
      refine opt_of (a := V.bool true) rfl ?_
      sizeOf_list_dec
      refine opt_of (a := V.bool false) rfl ?_
      sizeOf_list_dec
      refine opt_of l3 ?_
      exact r2
    refine c_ret hM ?_
    sizeOf_list_dec
    refine opt_of l3 ?_
    refine opt_of (a := V.bool true) rfl ?_
    sizeOf_list_dec
    refine opt_map (ty_lst (v := .lst (prsF H top.2)) rfl) ?_
    sizeOf_list_dec
    exact opt_of l1 (opt_map (eqV_refl hd) h)
  · rw [e2]
    rw [e1] at l3
    refine c_guard hM ?_ ?_
    · refine opt_of l3 ?_
      sizeOf_list_dec
      refine opt_of (a := V.bool false) rfl ?_
      sizeOf_list_dec
      refine opt_of l3 ?_
      refine opt_of (a := V.bool true) rfl ?_
      sizeOf_list_dec
      refine opt_map (ty_str (v := .str s) rfl) ?_
      exact r2
    refine c_ret hM ?_
    skip
    refine opt_of l3 ?_
    sizeOf_list_dec
    rw [decide_eq_true rfl]
    sizeOf_list_dec
    refine opt_map (ty_lst (v := .lst (prsF H top.2)) rfl) ?_
    sizeOf_list_dec
    exact opt_of l1 (opt_map (eqV_refl hd) h)
end

section
open PySem PySem.W PySem.Calls PyProof.Rows
set_option maxRecDepth 100000
set_option linter.unusedSimpArgs false
set_option linter.unusedVariables false
/-! what a change leaves: numbered and behind -/
theorem bks_blk : ∀ {h : Nat} {x : E h}, ∀ q ∈ bksE h x, noneOr q.2 = some q.2 ∧ notNone q.2 = true
  | 0, _, q, hq => (List.not_mem_nil hq).elim
  | h + 1, x, q, hq => by
    rcases List.mem_cons.mp hq with rfl | hq
    · exact ⟨rfl, rfl⟩
    · obtain ⟨y, hy, hq⟩ := List.mem_flatMap.mp hq
      exact bks_blk q hq
theorem keys_filt {P : Int × V → Bool} {R : Int → Bool} : ∀ {l : Dct}, (∀ q ∈ l, R q.1 = true → P q = true) → (keysD (l.filter P)).filter R = (keysD l).filter R
  | [], _ => rfl
  | q :: l, h => by
    have ih := keys_filt fun x hx => h x (.tail _ hx)
    show (keysD ((q :: l).filter P)).filter R = (q.1 :: keysD l).filter R
    cases e : R q.1 with
    | true => rw [List.filter_cons_of_pos (h q (.head _) e), List.filter_cons_of_pos e, ← ih]; exact List.filter_cons_of_pos e
    | false =>
      have e' : ¬ R q.1 = true := by rw [e]; exact Bool.false_ne_true
      rw [List.filter_cons_of_neg e', ← ih]
      cases e2 : P q with
      | true => rw [List.filter_cons_of_pos e2]; exact List.filter_cons_of_neg e'
      | false => rw [List.filter_cons_of_neg (by rw [e2]; exact Bool.false_ne_true)]
theorem look_filt {P : Int × V → Bool} {l : Dct} (nd : (keysD l).Nodup) (j : Int) : (∀ b, lookD j l = some b → P (j, b) = true → lookD j (l.filter P) = some b) ∧ ((∀ b, lookD j l = some b → P (j, b) = false) → lookD j (l.filter P) = none) := by
  have nd2 : (keysD (l.filter P)).Nodup := filter_nodup nd
  refine ⟨fun b e hp => mem_lookD nd2 (List.mem_filter.mpr ⟨lookD_some_mem e, hp⟩), fun h => lookD_none.mpr fun q => ?_⟩
  obtain ⟨⟨j', b⟩, hq, rfl⟩ := List.mem_map.mp q
  obtain ⟨h1, h2⟩ := List.mem_filter.mp hq
  rw [h b (mem_lookD nd h1)] at h2; exact ff h2
section
variable {w : Int} {f : List V → List V} {B : Dct} {H : Nat} {top : T H} {ch : Dct}
/-- what the changes hold -/
theorem St.val {D' : Dct} {m : Nat} (s : St B (bksE (H + 1) top) D' ch m []) (cd : Cd 100 ch) (hb : ∀ q ∈ D', notNone q.2 = true) : ∀ q ∈ ch, notNone q.2 = true := fun q hq => by
  have hk : q.1 ∈ keysD (bksE (H + 1) top) ++ frs (keysD B) m := List.mem_append.mpr (s.keys q.1 (mem_keysD hq))
  have hk2 := s.perm.mem_iff.mpr hk
  rw [List.append_nil] at hk2
  obtain ⟨r, hr, er⟩ := List.mem_map.mp hk2
  have hl := mem_lookD cd.nd (show (q.1, q.2) ∈ ch from hq)
  rcases s.has r hr with e | ⟨e, _⟩
  · rw [er, hl] at e
    rw [Option.some.inj e]; exact hb r hr
  · rw [er, hl] at e; exact nn e.symm
theorem Fin8.nbr (tr : Tr w B top) (hp : B.Perm (bksE (H + 1) top)) (pB : ∀ q ∈ B, Pv 3 q.2) (fin : Fin8 w f B top ch) (cd : Cd 100 ch) {Q : Post} {σ : View} (h : Q (.bool true) σ) : nbrS [.dct B, .dct (unl B ch)] Q σ := by
  obtain ⟨hR, hpr, s, hg, hm⟩ := fin
  rename_i H' top' m go
  have hH := high tr
  have hfew : B.length ≤ 2001 := by
    have h1 := forest_few tr.hw tr.root.wf
    have h2 := tr.few
    rw [hp.length_eq]
    show (bksF H top.2).length + 1 ≤ 2001
    (first | lia | omega)
  have hval : m = 0 ∨ ∀ q ∈ ch, notNone q.2 = true := by
    rcases hg with rfl | e
    · exact .inr (s.val cd fun q hq => (bks_blk q hq).2)
    · exact .inl e
  have hln : (unl B ch).length ≤ 100 := Nat.le_trans (List.length_filter_le _ _) cd.len
  refine ⟨B, unl B ch, m, rfl, filter_nodup cd.nd, by (first | lia | omega), by (first | lia | omega), by (first | lia | omega), ?_, hval.imp id fun hv q hq => hv q (List.mem_filter.mp hq).1, fun q hq => ?_, h⟩
  · have hnw := s.news
    rcases hval with rfl | hv
    · have : ∀ q ∈ ch, ¬ (lookD q.1 B).isNone = true := fun q hq e => by
        have := List.mem_filter (p := fun j => (lookD j B).isNone).mpr ⟨mem_keysD hq, e⟩
        rw [hnw] at this; exact (List.not_mem_nil this)
      rw [← hnw]
      exact keys_filt fun q hq e => absurd e (this q hq)
    · rw [← hnw]
      refine keys_filt fun q hq e => unl_true.mpr fun e2 => ?_
      have hn := hv q hq
      rw [Option.isNone_iff_eq_none.mp e] at e2
      rw [← e2] at hn; exact ff hn
  · obtain ⟨h1, h2⟩ := List.mem_filter.mp hq
    refine ⟨cd.pv q h1, ?_, fun e => unl_true.mp h2 e.symm⟩
    cases e : lookD q.1 B with
    | none => exact .none
    | some b => exact pB _ (lookD_some_mem e)
theorem Fin8.beh (tr : Tr w B top) (hp : B.Perm (bksE (H + 1) top)) (fin : Fin8 w f B top ch) (cd : Cd 100 ch) (hris : Ris (f (prsF H top.2))) (hlen : (f (prsF H top.2)).length ≤ 2000) {Q : Post} {σ : View}
    (h : ∀ (D : Dct) (H' : Nat) (top' : T H'), Tr w D top' → D.length = (bksE (H' + 1) top').length → prsF H' top'.2 = f (prsF H top.2) → Q (.dct D) σ) : behS [.dct B, .dct (unl B ch)] Q σ := by
  obtain ⟨hR, hpr, s, hg, hm⟩ := fin
  rename_i H' top' m go
  have hkp := hp.map (fun q : Int × V => q.1)
  have ndB : (keysD B).Nodup := hkp.nodup_iff.mpr tr.nd
  have hfew : B.length ≤ 2001 := by
    have h1 := forest_few tr.hw tr.root.wf
    have h2 := tr.few
    rw [hp.length_eq]
    show (bksF H top.2).length + 1 ≤ 2001
    (first | lia | omega)
  have hln : (unl B ch).length ≤ 100 := Nat.le_trans (List.length_filter_le _ _) cd.len
  refine ⟨B, unl B ch, rfl, filter_nodup cd.nd, ndB, fun q hq => cd.pv q (List.mem_filter.mp hq).1, by (first | lia | omega), by (first | lia | omega), fun D ndD hD => ?_⟩
  have nd' : (keysD (bksE (H' + 1) top')).Nodup := (List.nodup_append.mp (s.nodup tr.nd)).1
  have hlk : ∀ j, lookD j D = lookD j (bksE (H' + 1) top') := fun j => by
    rw [hD, s.look tr.nd (fun j hj => hkp.mem_iff.mp hj) (fun q hq => (bks_blk q hq).1)]
    obtain ⟨f1, f2⟩ := look_filt (P := unlP B) cd.nd j
    cases e : lookD j ch with
    | none => rw [show lookD j (unl B ch) = none from f2 fun b eb => by rw [e] at eb; exact nn eb]
    | some b =>
      cases q : unlP B (j, b) with
      | true => rw [show lookD j (unl B ch) = some b from f1 b e q]
      | false =>
        rw [show lookD j (unl B ch) = none from f2 fun b' eb => by rw [e] at eb; cases eb; exact q]
        have hq : (lookD j B).getD .none = b := Classical.byContradiction fun r => by rw [unl_true.mpr r] at q; exact ff2 q
        show lookD j B = noneOr b
        cases e2 : lookD j B with
        | none => rw [e2] at hq; rw [← hq]; rfl
        | some b2 =>
          rw [e2] at hq
          have hq : b2 = b := hq
          rw [← hq]
          exact (bks_blk _ (hp.mem_iff.mp (lookD_some_mem e2))).1.symm
  refine h D H' top' ⟨tr.hw, tr.hw2, hR, by rw [hpr]; exact hris, nd', fun q hq => by rw [hlk]; exact mem_lookD nd' hq, by rw [hpr]; exact hlen⟩ ?_ hpr
  have l1 := len_le_of ndD (b := bksE (H' + 1) top') fun j hj => by rw [← hlk]; exact hj
  have l2 := len_le_of nd' (b := D) fun j hj => by rw [hlk]; exact hj
  exact Nat.le_antisymm l1 l2
end
end

section
open PySem PySem.W PySem.Calls PyProof.Rows
set_option maxRecDepth 100000
set_option linter.unusedSimpArgs false
set_option linter.unusedVariables false
noncomputable abbrev Spec1 := List V → Post → View → Prop
noncomputable def MonoS (S : Spec1) : Prop := ∀ xs Q Q' σ, S xs Q σ → (∀ d σ', Q d σ' → Q' d σ') → S xs Q' σ
noncomputable def nthS : List Spec1 → Nat → Spec1
  | [], _ => fun _ _ _ => False
  | s :: l, n => match n with
    | 0 => s
    | n + 1 => nthS l n
noncomputable def AllS : List Spec1 → Prop
  | [] => True
  | s :: l => MonoS s ∧ AllS l
theorem nthS_mono : ∀ (l : List Spec1), AllS l → ∀ n, MonoS (nthS l n)
  | [], _, _ => fun _ _ _ _ h _ => h.elim
  | _ :: _, h, 0 => h.1
  | _ :: l, h, n + 1 => nthS_mono l h.2 n
theorem halfS_mono : MonoS halfS := by rintro _ _ _ _ ⟨w, e, h⟩ k; exact ⟨w, e, k _ _ h⟩
theorem placeS_mono : MonoS placeS := by rintro _ _ _ _ ⟨a, b, e, h1, h2, h⟩ k; exact ⟨a, b, e, h1, h2, k _ _ h⟩
theorem partsS_mono : MonoS partsS := by rintro _ _ _ _ ⟨a, b, e, h⟩ k; exact ⟨a, b, e, k _ _ h⟩
theorem belS_mono : MonoS belS := by rintro _ _ _ _ ⟨a, b, c, d, e, h1, h⟩ k; exact ⟨a, b, c, d, e, h1, k _ _ h⟩
theorem pofS_mono : MonoS pofS := by rintro _ _ _ _ ⟨a, b, c, e, h1, h⟩ k; exact ⟨a, b, c, e, h1, k _ _ h⟩
theorem wayS_mono : MonoS wayS := by rintro _ _ _ _ ⟨a, b, c, d, i, e, h1, h⟩ k; exact ⟨a, b, c, d, i, e, h1, fun x y z q => k _ _ (h x y z q)⟩
theorem valS_mono : MonoS valS := by rintro _ _ _ _ ⟨a, b, c, d, i, e, h1, h⟩ k; exact ⟨a, b, c, d, i, e, h1, k _ _ h⟩
theorem lstS_mono : MonoS lstS := by rintro _ _ _ _ ⟨a, b, c, d, e, h1, h⟩ k; exact ⟨a, b, c, d, e, h1, k _ _ h⟩
theorem freeS_mono : MonoS freeS := by rintro _ _ _ _ ⟨a, b, c, e, h1, h⟩ k; exact ⟨a, b, c, e, h1, k _ _ h⟩
theorem unlS_mono : MonoS unlS := by rintro _ _ _ _ ⟨a, b, e, h1, h2, h3, h4, h⟩ k; exact ⟨a, b, e, h1, h2, h3, h4, k _ _ h⟩
theorem entryS_mono : MonoS entryS := by rintro _ _ _ _ ⟨a, b, c, d, i, e, h1, h⟩ k; exact ⟨a, b, c, d, i, e, h1, k _ _ h⟩
theorem putS_mono : MonoS putS := by rintro _ _ _ _ ⟨a, b, c, d, i, j, e, h1, h2, h⟩ k; exact ⟨a, b, c, d, i, j, e, h1, h2, fun x y z => k _ _ (h x y z)⟩
theorem joinS_mono : MonoS joinS := by rintro _ _ _ _ ⟨a1, a2, a3, a4, a5, a6, a7, a8, a9, b1, b2, b3, b4, b5, e, h1, h2, h3, h4, h5, h6, h7, h8, p, q⟩ k; exact ⟨a1, a2, a3, a4, a5, a6, a7, a8, a9, b1, b2, b3, b4, b5, e, h1, h2, h3, h4, h5, h6, h7, h8, fun x => k _ _ (p x), fun x => k _ _ (q x)⟩
theorem dropS_mono : MonoS dropS := by rintro _ _ _ _ ⟨a, b, c, d, i, e, h1, h2, h⟩ k; exact ⟨a, b, c, d, i, e, h1, h2, fun x y z => k _ _ (h x y z)⟩
theorem wholS_mono : MonoS wholS := by rintro _ _ _ _ ⟨w, e, h⟩ k; exact ⟨w, e, k _ _ h⟩
theorem widS_mono : MonoS widS := by rintro _ _ _ _ ⟨c, e, h⟩ k; exact ⟨c, e, fun w x y => k _ _ (h w x y)⟩
theorem vbyS_mono : MonoS vbyS := by rintro _ _ _ _ ⟨c, e, h⟩ k; exact ⟨c, e, fun s => k _ _ (h s)⟩
theorem heldS_mono : MonoS heldS := by rintro _ _ _ _ ⟨a, b, c, e, h1, h2, h⟩ k; exact ⟨a, b, c, e, h1, h2, h.imp (fun h => ⟨h.1, k _ _ h.2⟩) fun ⟨s, x, y⟩ => ⟨s, x, k _ _ y⟩⟩
theorem goodS_mono : MonoS goodS := by rintro _ _ _ _ ⟨a, b, c, d, i, e, h1, h2, h3, h4, h⟩ k; exact ⟨a, b, c, d, i, e, h1, h2, h3, h4, k _ _ h⟩
theorem rofS_mono : MonoS rofS := by rintro _ _ _ _ ⟨a, b, c, d, e, h1, h2, h⟩ k; exact ⟨a, b, c, d, e, h1, h2, k _ _ h⟩
theorem lvlS_mono : MonoS lvlS := by rintro _ _ _ _ ⟨a, b, c, e, h1, h2, h3, h4, h⟩ k; exact ⟨a, b, c, e, h1, h2, h3, h4, fun rs x y z => k _ _ (h rs x y z)⟩
theorem tbyS_mono : MonoS tbyS := by rintro _ _ _ _ ⟨a, b, c, e, h1, h2, h3, h4, h5, h6, h⟩ k; exact ⟨a, b, c, e, h1, h2, h3, h4, h5, h6, fun x y z p q r s => k _ _ (h x y z p q r s)⟩
theorem nbrS_mono : MonoS nbrS := by rintro _ _ _ _ ⟨a, b, c, e, h1, h2, h3, h4, h5, h6, h7, h⟩ k; exact ⟨a, b, c, e, h1, h2, h3, h4, h5, h6, h7, k _ _ h⟩
theorem behS_mono : MonoS behS := by rintro _ _ _ _ ⟨a, b, e, h1, h2, h3, h4, h5, h⟩ k; exact ⟨a, b, e, h1, h2, h3, h4, h5, fun x y z => k _ _ (h x y z)⟩
theorem lawlS_mono : MonoS lawlS := by rintro _ _ _ _ ⟨a, b, c, d, i, e, h1, h⟩ k; exact ⟨a, b, c, d, i, e, h1, k _ _ h⟩
noncomputable def specs08 : List Spec1 := [halfS, placeS, partsS, belS, pofS, wayS, valS, lstS, freeS, unlS, entryS, putS, joinS, dropS, cellS, wholS, widS, vbyS, heldS, goodS, rofS, lvlS, tbyS, nbrS, behS, lawlS]
noncomputable def Φ08 : Spec := nthS specs08
theorem mono08 : SpecMono Φ08 := nthS_mono specs08 ⟨halfS_mono, placeS_mono, partsS_mono, belS_mono, pofS_mono, wayS_mono, valS_mono, lstS_mono, freeS_mono, unlS_mono, entryS_mono, putS_mono, joinS_mono, dropS_mono, fun _ _ _ _ => cellS_mono, wholS_mono, widS_mono, vbyS_mono, heldS_mono, goodS_mono, rofS_mono, lvlS_mono, tbyS_mono, nbrS_mono, behS_mono, lawlS_mono, trivial⟩
noncomputable def vS (k : Nat) : Str := ⟨(List.replicate ((k : Int) % 3).toNat (Str.ofString "v").cps.toList).flatten.toArray⟩
noncomputable def prL (f : Int) (n : Nat) : List V := (List.range n).map fun (k : Nat) => V.tup [.int (f + 3 * (k : Int)), .str (vS k)]
theorem prL_get {f : Int} {n i : Nat} {p : V} (h : (prL f n)[i]? = some p) : i < n ∧ p = .tup [.int (f + 3 * (i : Int)), .str (vS i)] := by
  unfold prL at h
  rw [List.getElem?_map, Option.map_eq_some_iff] at h
  obtain ⟨j, hj, rfl⟩ := h
  obtain ⟨h1, h2⟩ := List.getElem?_eq_some_iff.mp hj
  simp only [List.length_range, List.getElem_range] at h1 h2
  subst h2
  exact ⟨h1, rfl⟩
theorem prL_len {f : Int} {n : Nat} : (prL f n).length = n := by unfold prL; simp
theorem prL_pair {f : Int} {n : Nat} : ∀ p ∈ prL f n, ∃ k s, p = .tup [.int k, .str s] := fun p hp => by
  obtain ⟨i, hi⟩ := List.mem_iff_getElem?.mp hp
  exact ⟨_, _, (prL_get hi).2⟩
theorem prL_ris {f : Int} {n : Nat} : Ris (prL f n) := by
  unfold Ris prL
  rw [List.map_map]
  refine List.pairwise_map.mpr (List.pairwise_lt_range.imp fun {a b} h => ?_)
  show f + 3 * (a : Int) < f + 3 * (b : Int)
  (first | lia | omega)
theorem pv_dat {n : Nat} {v : V} (h : Pv n v) : ∀ m, n ≤ m → Dat m v := by
  induction h with
  | none => exact fun _ _ => .none
  | int i => exact fun _ _ => .int i
  | str s => exact fun _ _ => .str s
  | tup _ ih =>
    intro m hm
    cases m with
    | zero => exact absurd hm (Nat.not_succ_le_zero _)
    | succ m => exact .tup fun x hx => ih x hx m (Nat.le_of_succ_le_succ hm)
theorem cellW {ks : List Int} (hl : ks.length ≤ 63) {j : Int} (hj : 0 ≤ j) {Q : Post} {σ : View} (h : Q (.int (cellAt ks j.toNat)) σ) : below Φ08 26 14 [.lst (ks.map .int), .int j] Q σ := ⟨by decide, ks, j, rfl, hj, hl, h⟩
theorem ins_form {r : List V} {k : Int} {s : Str} (h : ∀ p ∈ r, ∃ k s, p = .tup [.int k, .str s]) : ∀ p ∈ insRow r k (.str s), ∃ k s, p = .tup [.int k, .str s] := fun p hp => by
  rcases List.mem_append.mp hp with hp | hp
  · rcases List.mem_append.mp hp with hp | hp
    · exact h p (List.mem_filter.mp hp).1
    · exact ⟨k, s, List.mem_singleton.mp hp⟩
  · exact h p (List.mem_filter.mp hp).1
theorem dat_row {r : List V} (h : ∀ p ∈ r, ∃ k s, p = .tup [.int k, .str s]) : Dat 20 (.lst r) := .lst fun x hx => by
  obtain ⟨k', s, rfl⟩ := h x hx
  refine .tup fun y hy => ?_
  rcases List.mem_cons.mp hy with rfl | hy
  · exact .int _
  · rw [List.mem_singleton.mp hy]; exact .str _
inductive LaA (ks : List Int) (σ : View) (ls : Ls) : Prop
  | mk (w : Int) (n : Nat) : σ = (fun _ => none) → ls = ((argLs [.lst (ks.map .int)]).set 1 (.int w)).set 2 (.int n) → 3 ≤ w → w ≤ 64 → n ≤ 1200 → LaA ks σ ls
inductive LaB (w k f : Int) (n : Nat) (B : Dct) {H : Nat} (top : T H) (σ : View) (ls : Ls) : Prop
  | mk (v : V) (ch : Dct) : σ = (fun _ => none) → Cd 100 ch → ((v = .none ∧ Fin8 w (fun r => delRow r k) B top ch) ∨ ∃ s, v = .str s ∧ Fin8 w (fun r => insRow r k (.str s)) B top ch) → ls 1 = some (.int w) → ls 4 = some (.lst (prL f n)) → ls 6 = some (.dct B) → ls 7 = some (.dct B) → ls 8 = some (.int k) → ls 11 = some v → ls 12 = some (.dct (unl B ch)) → LaB w k f n B top σ ls
theorem law_ok (ks : List Int) (hl : ks.length ≤ 63) (hb : ∀ k ∈ ks, Builtin.Int.intBits k ≤ 2 ^ 20) (Gc : Nat → V) : swps (below Φ08 26) Gc m_law (fun _ _ => V.none = .bool true) (fun d _ => d = .bool true) (fun _ => none) (argLs [.lst (ks.map .int)]) := by
  have hM : SpecMono (below Φ08 26) := below_mono mono08 26
  refine c_assign hM (fun d => ∃ w, 3 ≤ w ∧ w ≤ 64 ∧ d = .int w) ?_ ?_
  · skip
    refine cellW hl (by decide) ?_
    exact ⟨by decide, _, rfl, fun w h1 h2 => ⟨rfl, w, h1, h2, rfl⟩⟩
  rintro _ ⟨w0, hw3, hw, rfl⟩
  refine c_assign hM (fun d => ∃ n : Nat, n ≤ 1200 ∧ d = .int n) ?_ ?_
  · refine cellW hl (by decide) ?_
    skip
    exact ⟨rfl, (cellAt ks 1 % 41).toNat, by (first | lia | omega), by congr 1; (first | lia | omega)⟩
  rintro _ ⟨n0, hn0, rfl⟩
  refine c_if_assign hM (fun d => ∃ n : Nat, n ≤ 1200 ∧ d = .int n) ?_ ?_
  · have e0 : cwp (below Φ08 26) Gc (((argLs [.lst (ks.map .int)]).set 1 (.int w0)).set 2 (.int n0)) (.op .mod (es [(.op .mod (es [(.op .mul (es [(.call 14 (es [(.var 0), (.lit (.int 1))])), (.lit (.int 48271))])), (.lit (.int 1009))])), (.lit (.int 201))])) (fun d σ' => σ' = (fun _ => none) ∧ ∃ n : Nat, n ≤ 1200 ∧ d = .int n) (fun _ => none) := by
      refine cellW hl (by decide) ?_
      skip
      refine opt_if (mulFits_right (by decide) (by decide)) ?_
      sizeOf_list_dec
      exact ⟨rfl, (cellAt ks 1 * 48271 % 1009 % 201).toNat, by (first | lia | omega), by congr 1; (first | lia | omega)⟩
    have e1 : opt ((((argLs [.lst (ks.map .int)]).set 1 (.int w0)).set 2 (.int n0)) 2) (fun d => ∃ n : Nat, n ≤ 1200 ∧ d = .int n) := ⟨n0, hn0, rfl⟩
    refine cellW hl (by decide) ?_
    sizeOf_list_dec
    cases decide (cellAt ks 1 / 41 % 4 = 1) with
    | true => exact ⟨rfl, e0⟩
    | false =>
      sizeOf_list_dec
      cases decide (6 < w0) with
      | true => exact ⟨rfl, e0⟩
      | false => exact ⟨rfl, e1⟩
  rintro _ ⟨n1, hn1, rfl⟩; rw [set_set]
  refine swps_cut hM (I := LaA ks) ?_ ?_
  · refine ctwp_t hM ?_
    refine cellW hl (by decide) ?_
    sizeOf_list_dec
    cases decide (cellAt ks 1 / 164 % 16 = 3) with
    | false => exact ⟨w0, n1, rfl, rfl, hw3, hw, hn1⟩
    | true =>
      refine c_let hM (v := .int 3) ⟨rfl, rfl⟩ ?_
      refine c_assign hM (r := .nil) (fun d => ∃ n : Nat, n ≤ 1200 ∧ d = .int n) ?_ ?_
      · refine cellW hl (by decide) ?_
        skip
        refine opt_if (mulFits_right (by decide) (by decide)) ?_
        skip
        exact ⟨rfl, (400 + cellAt ks 1 * 48271 % 1009 % 801).toNat, by (first | lia | omega), by congr 1; (first | lia | omega)⟩
      rintro _ ⟨n, hn, rfl⟩
      refine ⟨3, n, rfl, ?_, by decide, by decide, hn⟩
      funext i
      by_cases q2 : i = 2 <;> by_cases q1 : i = 1 <;> simp [Ls.set, q1, q2]
  rintro _ _ ⟨w, n, rfl, rfl, hw3, hw, hn⟩
  refine c_assign hM (fun d => ∃ f, d = .int f) ?_ ?_
  · skip
    refine cellW hl (by decide) ?_
    skip
    exact ⟨rfl, _, rfl⟩
  rintro _ ⟨f, rfl⟩
  refine c_let hM (v := .lst (prL f n)) ?_ ?_
  · refine w_comp_r hM (n := n) (fun k => V.tup [.int (f + 3 * (k : Int)), .str (vS k)]) (cwp_e hM _ r2) (by unfold big; (first | lia | omega)) (fun k hk => cwp_e hM _ ?_) r2
    skip
    refine opt_of (if_pos (e := none) (show (Str.ofString "v").length * ((k : Int) % 3).toNat ≤ big ∧ smallI ((k : Int) % 3) = true from ⟨by rw [show (Str.ofString "v").length = 1 by decide +kernel]; unfold big; (first | lia | omega), smallI_of (by (first | lia | omega)) (by (first | lia | omega))⟩)) ?_
    skip
    exact r2
  refine c_assign hM (fun d => ∃ (B : Dct) (H : Nat) (top : T H), Tr w B top ∧ B.Perm (bksE (H + 1) top) ∧ (∀ q ∈ B, Pv 3 q.2) ∧ prsF H top.2 = prL f n ∧ d = .dct B) ?_ ?_
  · skip
    refine cellW hl (by decide) ?_
    skip
    exact ⟨by decide, prL f n, w, _, rfl, by (first | lia | omega), hw3, hw, by rw [prL_len]; (first | lia | omega), prL_pair, prL_ris, fun es H top h1 h2 h3 h4 => ⟨rfl, es, H, top, h1, h2, h3, h4, rfl⟩⟩
  rintro _ ⟨B, H, top, tr, hp, pB, hpr, rfl⟩
  refine c_let hM (v := .dct B) r2 ?_
  refine c_assign hM (fun d => ∃ k, d = .int k) ?_ ?_
  · skip
    refine cellW hl (by decide) ?_
    skip
    refine opt_if (show (0 : Int) < max 1 (n : Int) by (first | lia | omega)) ?_
    sizeOf_list_dec
    refine cellW hl (by decide) ?_
    sizeOf_list_dec
    have hq : cellAt ks 5 % 4 = 0 ∨ cellAt ks 5 % 4 = 1 ∨ cellAt ks 5 % 4 = 2 ∨ cellAt ks 5 % 4 = 3 := by (first | lia | omega)
    rcases hq with e | e | e | e <;> rw [e] <;> exact ⟨rfl, _, rfl⟩
  rintro _ ⟨k0, rfl⟩
  refine c_if_assign hM (fun d => ∃ k, d = .int k) ?_ ?_
  · refine cellW hl (by decide) ?_
    sizeOf_list_dec
    cases decide (cellAt ks 5 / 4 % 7 = 1) with
    | false => exact ⟨rfl, k0, rfl⟩
    | true =>
      refine ⟨rfl, cellW hl (by decide) ?_⟩
      sizeOf_list_dec
      exact ⟨rfl, _, rfl⟩
  rintro _ ⟨k, rfl⟩; rw [set_set]
  refine c_guard hM ?_ ?_
  · skip
    exact ⟨by decide, w, B, H, top, k, by rw [hpr], tr, rfl, rfl⟩
  have hent : Ents (prL f n) := fun p hp => by
    obtain ⟨k, s, rfl⟩ := prL_pair p hp
    exact ⟨.str s, rfl⟩
  refine c_assign hM (fun d => ∃ b, d = .bool b) ?_ ?_
  · sizeOf_list_dec
    refine w_filt hM (xs := prL f n) (fun v => decide (keyOf v = k)) (cwp_e hM _ ⟨rfl, .inl rfl⟩) (by rw [prL_len]; unfold big; (first | lia | omega)) (fun v hv => cwp_e hM _ ?_) ⟨rfl, _, rfl⟩
    obtain ⟨k', s, rfl⟩ := prL_pair v hv
    exact r2
  rintro _ ⟨b, rfl⟩
  refine c_assign hM (fun d => ∃ s : Str, d = .str s) ?_ ?_
  · skip
    refine cellW hl (by decide) ?_
    exact ⟨by decide, _, rfl, fun s => ⟨rfl, s, rfl⟩⟩
  rintro _ ⟨s, rfl⟩
  refine swps_cut hM (I := LaB w k f n B top) ?_ ?_
  · refine ctwp_t hM ?_
    have eput : swps (below Φ08 26) Gc (ss [.assign 12 (.call 11 (es [(.var 7), (.var 1), (.var 8), (.var 11)]))]) (LaB w k f n B top) (fun d _ => d = .bool true) (fun _ => none)
      (((((((((argLs [.lst (ks.map .int)]).set 1 (.int w)).set 2 (.int n)).set 3 (.int f)).set 4 (.lst (prL f n))).set 6 (.dct B)).set 7 (.dct B)).set 8 (.int k)).set 9 (.bool b) |>.set 11 (.str s)) := by
      refine c_any hM (r := .nil) ?_
      skip
      exact ⟨by decide, w, B, H, top, k, s, rfl, tr, pB, fun ch hfin hcd => ⟨.str s, ch, rfl, hcd, .inr ⟨s, rfl, hfin⟩, rfl, rfl, rfl, rfl, rfl, rfl, rfl⟩⟩
    cases b with
    | false => exact eput
    | true =>
      refine cellW hl (by decide) ?_
      sizeOf_list_dec
      cases decide (cellAt ks 7 % 2 = 0) with
      | false => exact eput
      | true =>
        refine c_let hM (v := .none) ⟨rfl, rfl⟩ ?_
        refine c_any hM (r := .nil) ?_
        skip
        exact ⟨by decide, w, B, H, top, k, rfl, tr, pB, fun ch hfin hcd => ⟨.none, ch, rfl, hcd, .inl ⟨rfl, hfin⟩, rfl, rfl, rfl, rfl, rfl, rfl, rfl⟩⟩
  rintro _ ls ⟨v, ch, rfl, hcd, hv, l1, l4, l6, l7, l8, l11, l12⟩
  have ndB : (keysD B).Nodup := (hp.map (fun q : Int × V => q.1)).nodup_iff.mpr tr.nd
  have heq : eqV (fun _ => none) (.dct B) (.dct B) = some true := (eqV_dic rfl rfl).trans (eqDict_ext ndB ndB (fun _ => rfl) fun q hq => pv_dat (pB q hq) 20 (by decide))
  refine c_guard hM ?_ ?_
  · refine opt_of l7 (opt_of l6 (opt_map heq ?_))
    sizeOf_list_dec
    refine opt_of l6 (opt_of l12 ⟨by decide, ?_⟩)
    refine (show ∀ {xs Q σ}, nbrS xs Q σ → Φ08 23 xs Q σ from fun h => h) ?_
    rcases hv with ⟨_, hfin⟩ | ⟨s, _, hfin⟩
    · exact hfin.nbr tr hp pB hcd r2
    · exact hfin.nbr tr hp pB hcd r2
  have hri : Ris (prsF H top.2) := tr.ris
  have hri2 : Ris (prL f n) := prL_ris
  refine c_ret hM (opt_of l6 (opt_of l12 ⟨by decide, ?_⟩))
  refine (show ∀ {xs Q σ}, behS xs Q σ → Φ08 24 xs Q σ from fun h => h) ?_
  rcases hv with ⟨rfl, hfin⟩ | ⟨s, rfl, hfin⟩
  · have hl2 := (delRow_len (k := k) hri).2
    rw [hpr, prL_len] at hl2
    refine hfin.beh tr hp hcd (ris_del hri) (by rw [hpr]; (first | lia | omega)) fun D H' top' tr' hD hpr' => ?_
    refine opt_of l1 ⟨by decide, w, D, H', top', rfl, tr', hD, ?_⟩
    refine opt_of l4 (opt_of l8 (opt_of l11 ⟨by decide, prL f n, k, .none, rfl, hent, by rw [prL_len]; (first | lia | omega), .inl ⟨rfl, ?_⟩⟩))
    rw [hpr', hpr, ← del_held hri2]
    exact opt_map (eqV_refl (dat_row fun p hp => prL_pair p (List.mem_filter.mp hp).1)) rfl
  · have hl2 := (insRow_len (k := k) (v := .str s) hri).2
    rw [hpr, prL_len] at hl2
    refine hfin.beh tr hp hcd (ris_ins hri) (by rw [hpr]; (first | lia | omega)) fun D H' top' tr' hD hpr' => ?_
    refine opt_of l1 ⟨by decide, w, D, H', top', rfl, tr', hD, ?_⟩
    refine opt_of l4 (opt_of l8 (opt_of l11 ⟨by decide, prL f n, k, .str s, rfl, hent, by rw [prL_len]; (first | lia | omega), .inr ⟨s, rfl, ?_⟩⟩))
    rw [hpr', hpr]
    exact opt_map (eqV_refl (dat_row (ins_form prL_pair))) rfl
end

end Mine
end

open PySem PySem.W PySem.Calls PyProof.Rows
set_option maxRecDepth 100000
set_option linter.unusedVariables false
set_option Elab.async false
namespace Mine
theorem rcd_mem {n : Str} (h : (recs.find? fun d => d.name == n).isSome = true) : rcd n ∈ recs := by
  unfold rcd
  obtain ⟨d, hd⟩ := Option.isSome_iff_exists.mp h
  rw [hd]; exact List.mem_of_find?_eq_some hd
noncomputable def gcW : Nat → V := fun _ => .none
set_option maxHeartbeats 4000000 in
theorem spec_all : ∀ f F, tab.fns[f]? = some F → ∀ xs Q σ, Φ08 f xs Q σ → xs.length = F.d.params.args.length ∧ swps (below Φ08 f) gcW F.ms (fun σ' _ => Q .none σ') Q σ (argLs xs)
  | 0, F, h => by
    cases h
    intro xs Q σ h
    have k := half_ok (below Φ08 0) (below_mono mono08 _) gcW h
    exact ⟨k.1.trans (by decide +kernel), k.2⟩
  | 1, F, h => by
    cases h
    intro xs Q σ h
    have k := place_ok (below Φ08 1) (below_mono mono08 _) gcW h
    exact ⟨k.1.trans (by decide +kernel), k.2⟩
  | 2, F, h => by
    cases h
    intro xs Q σ h
    have k := parts_ok (below Φ08 2) (below_mono mono08 _) gcW h
    exact ⟨k.1.trans (by decide +kernel), k.2⟩
  | 3, F, h => by
    cases h
    intro xs Q σ h
    have k := bel_ok (below Φ08 3) (below_mono mono08 _) gcW h
    exact ⟨k.1.trans (by decide +kernel), k.2⟩
  | 4, F, h => by
    cases h
    intro xs Q σ h
    have k := pof_ok (below Φ08 4) (below_mono mono08 _) gcW h
    exact ⟨k.1.trans (by decide +kernel), k.2⟩
  | 5, F, h => by
    cases h
    intro xs Q σ h
    have k := way_ok (below Φ08 5) (below_mono mono08 _) gcW (fun xs Q σ h => ⟨by decide, h⟩) h
    exact ⟨k.1.trans (by decide +kernel), k.2⟩
  | 6, F, h => by
    cases h
    intro xs Q σ h
    have k := val_ok (below Φ08 6) (below_mono mono08 _) gcW (fun xs Q σ h => ⟨by decide, h⟩) h
    exact ⟨k.1.trans (by decide +kernel), k.2⟩
  | 7, F, h => by
    cases h
    intro xs Q σ h
    have k := lst_ok (below Φ08 7) (below_mono mono08 _) gcW (fun xs Q σ h => ⟨by decide, h⟩) (fun xs Q σ h => ⟨by decide, h⟩) h
    exact ⟨k.1.trans (by decide +kernel), k.2⟩
  | 8, F, h => by
    cases h
    intro xs Q σ h
    have k := free_ok (below Φ08 8) (below_mono mono08 _) gcW h
    exact ⟨k.1.trans (by decide +kernel), k.2⟩
  | 9, F, h => by
    cases h
    intro xs Q σ h
    have k := unl_ok (below Φ08 9) (below_mono mono08 _) gcW h
    exact ⟨k.1.trans (by decide +kernel), k.2⟩
  | 10, F, h => by
    cases h
    intro xs Q σ h
    have k := entry_ok (below Φ08 10) (below_mono mono08 _) gcW h
    exact ⟨k.1.trans (by decide +kernel), k.2⟩
  | 11, F, h => by
    cases h
    intro xs Q σ h
    have k := put_ok (below Φ08 11) (below_mono mono08 _) gcW (fun xs Q σ h => ⟨by decide, h⟩) (fun xs Q σ h => ⟨by decide, h⟩) (fun xs Q σ h => ⟨by decide, h⟩) (fun xs Q σ h => ⟨by decide, h⟩) (fun xs Q σ h => ⟨by decide, h⟩) h
    exact ⟨k.1.trans (by decide +kernel), k.2⟩
  | 12, F, h => by
    cases h
    intro xs Q σ h
    have k := join_ok (below Φ08 12) (below_mono mono08 _) gcW (fun xs Q σ h => ⟨by decide, h⟩) (fun xs Q σ h => ⟨by decide, h⟩) h
    exact ⟨k.1.trans (by decide +kernel), k.2⟩
  | 13, F, h => by
    cases h
    intro xs Q σ h
    have k := drop_ok (below Φ08 13) (below_mono mono08 _) gcW (fun xs Q σ h => ⟨by decide, h⟩) (fun xs Q σ h => ⟨by decide, h⟩) (fun xs Q σ h => ⟨by decide, h⟩) (fun xs Q σ h => ⟨by decide, h⟩) (fun xs Q σ h => ⟨by decide, h⟩) h
    exact ⟨k.1.trans (by decide +kernel), k.2⟩
  | 14, F, h => by
    cases h
    intro xs Q σ h
    have k := cellS_ok (below Φ08 14) (below_mono mono08 _) gcW h
    exact ⟨k.1.trans (by decide +kernel), k.2⟩
  | 15, F, h => by
    cases h
    intro xs Q σ h
    have k := whol_ok (below Φ08 15) (below_mono mono08 _) gcW h
    exact ⟨k.1.trans (by decide +kernel), k.2⟩
  | 16, F, h => by
    cases h
    intro xs Q σ h
    have k := width_ok (below Φ08 16) (below_mono mono08 _) gcW h
    exact ⟨k.1.trans (by decide +kernel), k.2⟩
  | 17, F, h => by
    cases h
    intro xs Q σ h
    have k := vby_ok (below Φ08 17) (below_mono mono08 _) gcW h
    exact ⟨k.1.trans (by decide +kernel), k.2⟩
  | 18, F, h => by
    cases h
    intro xs Q σ h
    have k := held_ok (below Φ08 18) (below_mono mono08 _) gcW h
    exact ⟨k.1.trans (by decide +kernel), k.2⟩
  | 19, F, h => by
    cases h
    intro xs Q σ h
    have k := good_ok (below Φ08 19) (below_mono mono08 _) gcW (fun xs Q σ h => ⟨by decide, h⟩) h
    exact ⟨k.1.trans (by decide +kernel), k.2⟩
  | 20, F, h => by
    cases h
    intro xs Q σ h
    have k := rof_ok (below Φ08 20) (below_mono mono08 _) gcW (fun xs Q σ h => ⟨by decide, h⟩) h
    exact ⟨k.1.trans (by decide +kernel), k.2⟩
  | 21, F, h => by
    cases h
    intro xs Q σ h
    have k := level_ok (below Φ08 21) (below_mono mono08 _) gcW h
    exact ⟨k.1.trans (by decide +kernel), k.2⟩
  | 22, F, h => by
    cases h
    intro xs Q σ h
    have k := tree_ok (below Φ08 22) (below_mono mono08 _) gcW (fun xs Q σ h => ⟨by decide, h⟩) h
    exact ⟨k.1.trans (by decide +kernel), k.2⟩
  | 23, F, h => by
    cases h
    intro xs Q σ h
    have k := nbr_ok (below Φ08 23) (below_mono mono08 _) gcW (fun xs Q σ h => ⟨by decide, h⟩) h
    exact ⟨k.1.trans (by decide +kernel), k.2⟩
  | 24, F, h => by
    cases h
    intro xs Q σ h
    have k := beh_ok (below Φ08 24) (below_mono mono08 _) gcW h
    exact ⟨k.1.trans (by decide +kernel), k.2⟩
  | 25, F, h => by
    cases h
    intro xs Q σ h
    have k := lawl_ok (below Φ08 25) (below_mono mono08 _) gcW (fun xs Q σ h => ⟨by decide, h⟩) (fun xs Q σ h => ⟨by decide, h⟩) h
    exact ⟨k.1.trans (by decide +kernel), k.2⟩
  | 26, F, h => by
    cases h
    intro xs Q σ h
    exact (show False from h).elim
  | f + 27, F, h => by simp [tab] at h
set_option maxHeartbeats 4000000 in
theorem tab_in : ∀ F ∈ tab.fns, F.d ∈ recs := by
  unfold tab
  dsimp only
  refine List.forall_mem_cons.mpr ⟨rcd_mem (n := "half") (by decide +kernel), ?_⟩
  refine List.forall_mem_cons.mpr ⟨rcd_mem (n := "place") (by decide +kernel), ?_⟩
  refine List.forall_mem_cons.mpr ⟨rcd_mem (n := "parts") (by decide +kernel), ?_⟩
  refine List.forall_mem_cons.mpr ⟨rcd_mem (n := "below") (by decide +kernel), ?_⟩
  refine List.forall_mem_cons.mpr ⟨rcd_mem (n := "pairs_of") (by decide +kernel), ?_⟩
  refine List.forall_mem_cons.mpr ⟨rcd_mem (n := "way_to") (by decide +kernel), ?_⟩
  refine List.forall_mem_cons.mpr ⟨rcd_mem (n := "value_in") (by decide +kernel), ?_⟩
  refine List.forall_mem_cons.mpr ⟨rcd_mem (n := "listed") (by decide +kernel), ?_⟩
  refine List.forall_mem_cons.mpr ⟨rcd_mem (n := "free_number") (by decide +kernel), ?_⟩
  refine List.forall_mem_cons.mpr ⟨rcd_mem (n := "unlike") (by decide +kernel), ?_⟩
  refine List.forall_mem_cons.mpr ⟨rcd_mem (n := "entry_of") (by decide +kernel), ?_⟩
  refine List.forall_mem_cons.mpr ⟨rcd_mem (n := "put_in") (by decide +kernel), ?_⟩
  refine List.forall_mem_cons.mpr ⟨rcd_mem (n := "joined") (by decide +kernel), ?_⟩
  refine List.forall_mem_cons.mpr ⟨rcd_mem (n := "drop_from") (by decide +kernel), ?_⟩
  refine List.forall_mem_cons.mpr ⟨rcd_mem (n := "_law_cell_at") (by decide +kernel), ?_⟩
  refine List.forall_mem_cons.mpr ⟨rcd_mem (n := "_law_whole") (by decide +kernel), ?_⟩
  refine List.forall_mem_cons.mpr ⟨rcd_mem (n := "_law_width_by") (by decide +kernel), ?_⟩
  refine List.forall_mem_cons.mpr ⟨rcd_mem (n := "_law_value_by") (by decide +kernel), ?_⟩
  refine List.forall_mem_cons.mpr ⟨rcd_mem (n := "_law_held") (by decide +kernel), ?_⟩
  refine List.forall_mem_cons.mpr ⟨rcd_mem (n := "_law_good") (by decide +kernel), ?_⟩
  refine List.forall_mem_cons.mpr ⟨rcd_mem (n := "_law_row_of") (by decide +kernel), ?_⟩
  refine List.forall_mem_cons.mpr ⟨rcd_mem (n := "_law_level") (by decide +kernel), ?_⟩
  refine List.forall_mem_cons.mpr ⟨rcd_mem (n := "_law_tree_by") (by decide +kernel), ?_⟩
  refine List.forall_mem_cons.mpr ⟨rcd_mem (n := "_law_numbered") (by decide +kernel), ?_⟩
  refine List.forall_mem_cons.mpr ⟨rcd_mem (n := "_law_behind") (by decide +kernel), ?_⟩
  refine List.forall_mem_cons.mpr ⟨rcd_mem (n := "_law_listed") (by decide +kernel), ?_⟩
  refine List.forall_mem_cons.mpr ⟨rcd_mem (n := "law") (by decide +kernel), ?_⟩
  exact fun _ h => nomatch h
/-! the head: the top runs, as one look of the kernel -/
noncomputable def vq : Program := view PySem.Challenge.pw_uf020012_08 [1, 2, 3, 5, 6, 7, 8, 9, 10, 11, 12, 13, 14, 15, 17, 18, 19, 20, 21, 22, 23, 24, 25, 26, 27, 28, 29]
noncomputable def xt (s : Shared) : Bool := recOk (RowW.records PySem.Challenge.rw_uf020012_08.row.toRowW) s
theorem left : LeftO PySem.Challenge.pw_uf020012_08 vq [] xt (Hook.obs Hook.none) (Hook.val Hook.none) 20000 := by
  intro w
  kernel_rfl
theorem said : PySem.Challenge.rw_uf020012_08.wellSaid = true := by decide +kernel
theorem recs_eq : recs = recsOf vq := by kernel_rfl
theorem h_def : defOf vq PySem.Challenge.rw_uf020012_08.row.name = some (rcd "law", []) := by kernel_rfl
theorem h_p : PySem.Challenge.rw_uf020012_08.row.prog.theDef PySem.Challenge.rw_uf020012_08.row.name = some ((rcd "law").params, (rcd "law").body, (rcd "law").scope) := by kernel_rfl
theorem h_k : kwWritten? (rcd "law").params.kwonlyargs (rcd "law").params.kw_defaults = some [] := by kernel_rfl
theorem h_ok : (chainsOk vq && opensWell PySem.Challenge.rw_uf020012_08.row.prog && (frees PySem.Challenge.rw_uf020012_08.row.toRowW && PySem.Challenge.rw_uf020012_08.row.within.isEmpty)) = true := by decide +kernel
theorem h_b : PySem.Challenge.rw_uf020012_08.row.prog.bare := ⟨rfl, rfl, rfl, rfl, rfl, by decide +kernel⟩
theorem h_w : PySem.Challenge.rw_uf020012_08.row.toRowW.promised := by w_witness2
theorem hd (walk : WalkO vq [] (fun _ _ => True) (fun _ _ => True) PySem.Challenge.rw_uf020012_08.row.toRowW (rcd "law") [] (fun f vs => call f vs)) : PySem.Challenge.rw_uf020012_08.Holds :=
  holds_law said fun sd => holds_open (Xt := xt) (Yf := Hook.obs Hook.none) (Ya := Hook.val Hook.none) (N := 20000) left (fun _ _ _ => trivial) (fun _ _ _ _ _ => trivial) (fun _ _ => trivial) (fun _ _ _ _ _ => trivial)
    h_def h_p h_k (fun _ e => recFacts_of e) rfl sd h_ok h_b h_w walk
end Mine
set_option maxHeartbeats 8000000 in
theorem PySem.Challenge.cw_uf020012_08_holds : PySem.Challenge.rw_uf020012_08.Holds :=
  Mine.hd (Mine.law_walk (l := _) rfl rfl Mine.tab Mine.Φ08 Mine.gcW 26 ⟨Mine.rcd "law", Mine.m_law, Mine.v_law⟩ rfl rfl (by decide) (by decide +kernel) (fun F h => List.all_eq_true.mp Mine.tab_ag F h)
    (Mine.recs_eq ▸ Mine.tab_in) Mine.mono08 (by decide +kernel) (fun k x h => by simp [Mine.tab, Mine.gcs_uf020012_08] at h) Mine.spec_all (fun ks h1 h2 => Mine.law_ok ks h1 h2 _))
