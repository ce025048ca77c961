
import PyProof.Rows.All
import OpenK.KLine
import KE.KEqDict
import KE.KDictOf
import KE.KDictList
import PyProof.Rows.SortShell
import PyProof.Rows.SortWalk
import Open.Head
import Wide.All
import Open.Line
import Wide.FinOn
import Lean
import PySem.Challenge.RW_uf020012_07
set_option bootstrap.genMatcherCode false
set_option genSizeOf false
set_option genSizeOfSpec false
section

open PySem PyProof.Rows
namespace Mine
theorem ff {P : Prop} (h : false = true) : P := absurd h Bool.false_ne_true
theorem ff2 {P : Prop} (h : true = false) : P := absurd h.symm Bool.false_ne_true
theorem nn {P : Prop} {α : Type} {a : α} (h : none = some a) : P := by cases h
theorem i1 {a b c : Int} (h : b ≤ c) (k : decide (a ≤ b) = true) : a ≤ c := Int.le_trans (of_decide_eq_true k) h
theorem i2 {a b c : Int} (h : b ≤ c) (k : decide (a < b) = true) : a < c := Int.lt_of_lt_of_le (of_decide_eq_true k) h
theorem i3 {a b c : Int} (h : b < c) (k : decide (a ≤ b) = true) : a < c := Int.lt_of_le_of_lt (of_decide_eq_true k) h
theorem i4 {a b c : Int} (h : b < c) (k : decide (a ≤ b + 1) = true) : a ≤ c := Int.le_trans (of_decide_eq_true k) h
theorem i5 {a b c : Int} (h : c ≤ b) (k : decide (b ≤ a) = true) : c ≤ a := Int.le_trans h (of_decide_eq_true k)
theorem i6 {a b c : Int} (h : c ≤ b) (k : decide (b < a) = true) : c < a := Int.lt_of_le_of_lt h (of_decide_eq_true k)
theorem i7 {a b c : Int} (h : c < b) (k : decide (b ≤ a) = true) : c < a := Int.lt_of_lt_of_le h (of_decide_eq_true k)
theorem i8 {b c : Int} (h : b ≤ c) (k : decide (0 < b) = true) : c ≠ 0 := fun e => absurd (Int.lt_of_lt_of_le (of_decide_eq_true k) h) (e ▸ Int.lt_irrefl 0)
theorem n1 {a b c : Nat} (h : b ≤ c) (k : decide (a ≤ b) = true) : a ≤ c := Nat.le_trans (of_decide_eq_true k) h
theorem n2 {a b c : Nat} (h : b ≤ c) (k : decide (a < b) = true) : a < c := Nat.lt_of_lt_of_le (of_decide_eq_true k) h
theorem n5 {a b c : Nat} (h : c ≤ b) (k : decide (b ≤ a) = true) : c ≤ a := Nat.le_trans h (of_decide_eq_true k)
theorem n6 {a b c : Nat} (h : c ≤ b) (k : decide (b < a) = true) : c < a := Nat.lt_of_le_of_lt h (of_decide_eq_true k)
/-- plain data; `ref`: a mutable object of the call's own, held by the view -/
inductive V where
  | none
  | bool (b : Bool)
  | int (i : Int)
  | str (s : Str)
  | tup (xs : List V)
  | lst (xs : List V)
  | dct (es : List (Int × V))
  | ref (a : Addr)

/-- what the view says of an object; `ro`: for now it is only read -/
inductive Cell where
  | list (ro : Bool) (xs : List V)
  | dict (ro : Bool) (es : List (Int × V))
noncomputable def Cell.ro : Cell → Bool
  | .list r _ => r
  | .dict r _ => r
noncomputable def Cell.lock : Cell → Cell
  | .list _ xs => .list true xs
  | .dict _ es => .dict true es

noncomputable abbrev View := Addr → Option Cell
noncomputable abbrev Ls := Nat → Option V
noncomputable def View.upd (σ : View) (a : Addr) (c : Cell) : View := fun b => if b = a then some c else σ b
noncomputable def View.del (σ : View) (a : Addr) : View := fun b => if b = a then none else σ b
noncomputable def Ls.set (ls : Ls) (i : Nat) (v : V) : Ls := fun j => if j = i then some v else ls j

@[simp] theorem upd_self (σ : View) (a : Addr) (c : Cell) : σ.upd a c a = some c := by simp [View.upd]
theorem upd_ne {σ : View} {a b : Addr} {c : Cell} (h : b ≠ a) : σ.upd a c b = σ b := by simp [View.upd, h]
@[simp] theorem upd_upd (σ : View) (a : Addr) (c d : Cell) : (σ.upd a c).upd a d = σ.upd a d := by funext b; simp only [View.upd]; split <;> rfl
theorem del_upd {σ : View} {a : Addr} {c : Cell} (h : σ a = none) : (σ.upd a c).del a = σ := by
  funext b; simp only [View.upd, View.del]; split
  · rename_i e; simp only [e, h]
  · rfl
@[simp] theorem del_self (σ : View) (a : Addr) : σ.del a a = none := by simp [View.del]
theorem del_ne {σ : View} {a b : Addr} (h : b ≠ a) : σ.del a b = σ b := by simp [View.del, h]
noncomputable def listObj (vs : Array Value) (n : Nat) : Obj := { cls := .type "list", data := .seq vs n }
noncomputable def tupObj (vs : Array Value) (n : Nat) : Obj := { cls := .type "tuple", data := .seq vs n }
noncomputable def dictObj (es : Array DictEntry) (n : Nat) : Obj := { cls := .type "dict", data := .dict es n }

mutual
inductive Real (h : Heap) (D : Addr → Prop) : Value → V → Prop
  | none : Real h D .none .none
  | bool (b : Bool) : Real h D (.bool b) (.bool b)
  | int (i : Int) (t : Tok) : Real h D (.int i t) (.int i)
  | str (x : Str) (t : Tok) : PyData.strOk x = true → x.cps.size ≤ 2 ^ 24 → Real h D (.str x t) (.str x)
  | tup {a : Addr} {vs : Array Value} {n : Nat} {xs : List V} : h.get? a = some (tupObj vs n) → vs.size ≤ 2 ^ 24 → ¬ D a → Reals h D vs.toList xs → Real h D (.ref a) (.tup xs)
  | lst {a : Addr} {vs : Array Value} {n : Nat} {xs : List V} : h.get? a = some (listObj vs n) → vs.size ≤ 2 ^ 24 → ¬ D a → Reals h D vs.toList xs → Real h D (.ref a) (.lst xs)
  | dct {a : Addr} {es : Array DictEntry} {n : Nat} {xs : List (Int × V)} : h.get? a = some (dictObj es n) → es.size ≤ 2 ^ 24 → (xs.map (·.1)).Nodup → 2 < a → ¬ D a → RealD h D es.toList xs → Real h D (.ref a) (.dct xs)
  | ref (a : Addr) : Real h D (.ref a) (.ref a)
inductive Reals (h : Heap) (D : Addr → Prop) : List Value → List V → Prop
  | nil : Reals h D [] []
  | cons {v : Value} {vs : List Value} {x : V} {xs : List V} : Real h D v x → Reals h D vs xs → Reals h D (v :: vs) (x :: xs)
inductive RealD (h : Heap) (D : Addr → Prop) : List DictEntry → List (Int × V) → Prop
  | nil : RealD h D [] []
  | cons {e : DictEntry} {es : List DictEntry} {k : Int} {t : Tok} {x : V} {xs : List (Int × V)} : e.key = .int k t → e.hash = hashInt k → Real h D e.val x → RealD h D es xs → RealD h D (e :: es) ((k, x) :: xs)
end

inductive TupI (h : Heap) (D : Addr → Prop) (v : Value) (xs : List V) : Prop
  | mk (a : Addr) (vs : Array Value) (n : Nat) : v = .ref a → h.get? a = some (tupObj vs n) → vs.size ≤ 2 ^ 24 → ¬ D a → Reals h D vs.toList xs → TupI h D v xs
inductive LstJ (h : Heap) (D : Addr → Prop) (v : Value) (xs : List V) : Prop
  | mk (a : Addr) (vs : Array Value) (n : Nat) : v = .ref a → h.get? a = some (listObj vs n) → vs.size ≤ 2 ^ 24 → ¬ D a → Reals h D vs.toList xs → LstJ h D v xs
inductive DctJ (h : Heap) (D : Addr → Prop) (v : Value) (xs : List (Int × V)) : Prop
  | mk (a : Addr) (es : Array DictEntry) (n : Nat) : v = .ref a → h.get? a = some (dictObj es n) → es.size ≤ 2 ^ 24 → (xs.map (·.1)).Nodup → 2 < a → ¬ D a → RealD h D es.toList xs → DctJ h D v xs
noncomputable def RInv (h : Heap) (D : Addr → Prop) (v : Value) : V → Prop
  | .none => v = .none
  | .bool b => v = .bool b
  | .int i => ∃ t, v = .int i t
  | .str x => ∃ t, v = .str x t ∧ PyData.strOk x = true ∧ x.cps.size ≤ 2 ^ 24
  | .tup xs => TupI h D v xs
  | .lst xs => LstJ h D v xs
  | .dct xs => DctJ h D v xs
  | .ref a => v = .ref a
theorem Real.inv {h : Heap} {D : Addr → Prop} {v : Value} {x : V} (r : Real h D v x) : RInv h D v x := by
  cases r with
  | none => exact rfl
  | bool b => exact rfl
  | int i t => exact ⟨t, rfl⟩
  | str x t k z => exact ⟨t, rfl, k, z⟩
  | tup a b c d => exact ⟨_, _, _, rfl, a, b, c, d⟩
  | lst a b c d => exact ⟨_, _, _, rfl, a, b, c, d⟩
  | dct a b c d e f => exact ⟨_, _, _, rfl, a, b, c, d, e, f⟩
  | ref a => exact rfl
theorem Real.none_i {h : Heap} {D : Addr → Prop} {v : Value} (r : Real h D v .none) : v = .none := r.inv
theorem Real.bool_i {h : Heap} {D : Addr → Prop} {v : Value} {b : Bool} (r : Real h D v (.bool b)) : v = .bool b := r.inv
theorem Real.int_i {h : Heap} {D : Addr → Prop} {v : Value} {i : Int} (r : Real h D v (.int i)) : ∃ t, v = .int i t := r.inv
theorem Real.str_i {h : Heap} {D : Addr → Prop} {v : Value} {x : Str} (r : Real h D v (.str x)) : ∃ t, v = .str x t ∧ PyData.strOk x = true ∧ x.cps.size ≤ 2 ^ 24 := r.inv
theorem Real.tup_i {h : Heap} {D : Addr → Prop} {v : Value} {xs : List V} (r : Real h D v (.tup xs)) : TupI h D v xs := r.inv
theorem Real.lst_i {h : Heap} {D : Addr → Prop} {v : Value} {xs : List V} (r : Real h D v (.lst xs)) : LstJ h D v xs := r.inv
theorem Real.dct_i {h : Heap} {D : Addr → Prop} {v : Value} {xs : List (Int × V)} (r : Real h D v (.dct xs)) : DctJ h D v xs := r.inv
theorem Real.ref_i {h : Heap} {D : Addr → Prop} {v : Value} {a : Addr} (r : Real h D v (.ref a)) : v = .ref a := r.inv

/-- what a change of heap must leave, that what is read stays read -/
noncomputable def Leaves (h : Heap) (D : Addr → Prop) (h' : Heap) (D' : Addr → Prop) : Prop := ∀ b o, h.get? b = some o → ¬ D b → h'.get? b = some o ∧ ¬ D' b

theorem Real.leaves {h h' : Heap} {D D' : Addr → Prop} (L : Leaves h D h' D') {v : Value} {x : V} (r : Real h D v x) : Real h' D' v x := by
  refine Real.rec (motive_1 := fun v x _ => Real h' D' v x) (motive_2 := fun vs xs _ => Reals h' D' vs xs) (motive_3 := fun es xs _ => RealD h' D' es xs)
    .none .bool .int .str (fun ho hz hs _ r => .tup (L _ _ ho hs).1 hz (L _ _ ho hs).2 r) (fun ho hz hs _ r => .lst (L _ _ ho hs).1 hz (L _ _ ho hs).2 r) (fun ho hz hn h2 hs _ r => .dct (L _ _ ho hs).1 hz hn h2 (L _ _ ho hs).2 r) .ref
    .nil (fun _ _ a b => .cons a b) .nil (fun a b _ _ c d => .cons a b c d) r
theorem Reals.leaves {h h' : Heap} {D D' : Addr → Prop} (L : Leaves h D h' D') {vs : List Value} {xs : List V} (r : Reals h D vs xs) : Reals h' D' vs xs := by
  refine Reals.rec (motive_1 := fun v x _ => Real h' D' v x) (motive_2 := fun vs xs _ => Reals h' D' vs xs) (motive_3 := fun es xs _ => RealD h' D' es xs)
    .none .bool .int .str (fun ho hz hs _ r => .tup (L _ _ ho hs).1 hz (L _ _ ho hs).2 r) (fun ho hz hs _ r => .lst (L _ _ ho hs).1 hz (L _ _ ho hs).2 r) (fun ho hz hn h2 hs _ r => .dct (L _ _ ho hs).1 hz hn h2 (L _ _ ho hs).2 r) .ref
    .nil (fun _ _ a b => .cons a b) .nil (fun a b _ _ c d => .cons a b c d) r
theorem RealD.leaves {h h' : Heap} {D D' : Addr → Prop} (L : Leaves h D h' D') {es : List DictEntry} {xs : List (Int × V)} (r : RealD h D es xs) : RealD h' D' es xs := by
  refine RealD.rec (motive_1 := fun v x _ => Real h' D' v x) (motive_2 := fun vs xs _ => Reals h' D' vs xs) (motive_3 := fun es xs _ => RealD h' D' es xs)
    .none .bool .int .str (fun ho hz hs _ r => .tup (L _ _ ho hs).1 hz (L _ _ ho hs).2 r) (fun ho hz hs _ r => .lst (L _ _ ho hs).1 hz (L _ _ ho hs).2 r) (fun ho hz hn h2 hs _ r => .dct (L _ _ ho hs).1 hz hn h2 (L _ _ ho hs).2 r) .ref
    .nil (fun _ _ a b => .cons a b) .nil (fun a b _ _ c d => .cons a b c d) r

inductive ConsI (h : Heap) (D : Addr → Prop) (x : V) (xs : List V) (vs : List Value) : Prop
  | mk (v : Value) (ws : List Value) : vs = v :: ws → Real h D v x → Reals h D ws xs → ConsI h D x xs vs
inductive DConsI (h : Heap) (D : Addr → Prop) (e : DictEntry) (es : List DictEntry) (xs : List (Int × V)) : Prop
  | mk (k : Int) (t : Tok) (x : V) (ys : List (Int × V)) : xs = (k, x) :: ys → e.key = .int k t → e.hash = hashInt k → Real h D e.val x → RealD h D es ys → DConsI h D e es xs
theorem RealD.nil_i {h : Heap} {D : Addr → Prop} {xs : List (Int × V)} (r : RealD h D [] xs) : xs = [] := by cases r; rfl
theorem RealD.cons_i {h : Heap} {D : Addr → Prop} {e : DictEntry} {es : List DictEntry} {xs : List (Int × V)} (r : RealD h D (e :: es) xs) : DConsI h D e es xs := by
  cases r with | cons a b c d => exact ⟨_, _, _, _, rfl, a, b, c, d⟩
theorem Reals.nil_i {h : Heap} {D : Addr → Prop} {vs : List Value} (r : Reals h D vs []) : vs = [] := by cases r; rfl
theorem Reals.cons_i {h : Heap} {D : Addr → Prop} {x : V} {xs : List V} {vs : List Value} (r : Reals h D vs (x :: xs)) : ConsI h D x xs vs := by
  cases r with | cons a b => exact ⟨_, _, rfl, a, b⟩

inductive ListAt (h : Heap) (D : Addr → Prop) (a : Addr) (xs : List V) : Prop
  | mk (vs : Array Value) (n : Nat) : h.get? a = some (listObj vs n) → vs.size ≤ 2 ^ 24 → Reals h D vs.toList xs → ListAt h D a xs
inductive DictAt (h : Heap) (D : Addr → Prop) (a : Addr) (es : List (Int × V)) : Prop
  | mk (ds : Array DictEntry) (n : Nat) : h.get? a = some (dictObj ds n) → ds.size ≤ 2 ^ 24 → (es.map (·.1)).Nodup → RealD h D ds.toList es → DictAt h D a es
noncomputable def CellAt (h : Heap) (D : Addr → Prop) (a : Addr) : Cell → Prop
  | .list _ xs => ListAt h D a xs
  | .dict _ es => DictAt h D a es

/-- the view may change it -/
noncomputable def Rw (σ : View) (b : Addr) : Prop := ∃ c, σ b = some c ∧ c.ro = false
theorem Rw.of_none {σ : View} {b : Addr} (h : σ b = none) : ¬ Rw σ b := by rintro ⟨c, e, _⟩; exact nn (Eq.trans (Eq.symm h) e)
theorem Rw.of_ro {σ : View} {b : Addr} {c : Cell} (h : σ b = some c) (hr : c.ro = true) : ¬ Rw σ b := by rintro ⟨c', e, h'⟩; cases Eq.trans (Eq.symm h) e; exact ff (Eq.trans (Eq.symm h') hr)

/-- objects that are not the view's to change (nor of `own`) stay; the view grows by new objects alone -/
structure Step (own : Addr → Prop) (h : Heap) (σ : View) (h' : Heap) (σ' : View) : Prop where
  keep : ∀ b o, h.get? b = some o → ¬ Rw σ b → ¬ own b → h'.get? b = some o
  size : h.objs.size ≤ h'.objs.size
  grow : ∀ a, σ' a ≠ none → σ a = none → h.objs.size ≤ a
  ro : ∀ a c, a < h.objs.size → σ a = some c → c.ro = true → σ' a = some c ∨ σ' a = none

theorem Step.refl (own : Addr → Prop) (h : Heap) (σ : View) : Step own h σ h σ := ⟨fun _ _ e _ _ => e, Nat.le_refl _, fun _ h1 h2 => absurd h2 h1, fun _ _ _ e _ => .inl e⟩
theorem not_some {α : Type} {x : Option α} {c : α} (q : x = some c) : x ≠ none := (q ▸ (fun h => (nn (Eq.symm h))))
theorem Step.none {own : Addr → Prop} {h h' : Heap} {σ σ' : View} (x : Step own h σ h' σ') {b : Addr} (e : b < h.objs.size) (hs : σ b = none) : σ' b = none := by
  cases q : σ' b with
  | none => rfl
  | some c => exact absurd e (Nat.not_lt.mpr (x.grow b (not_some q) hs))
theorem Step.notRw {own : Addr → Prop} {h h' : Heap} {σ σ' : View} (x : Step own h σ h' σ') {b : Addr} (e : b < h.objs.size) (hs : ¬ Rw σ b) : ¬ Rw σ' b := by
  cases q : σ b with
  | none => exact Rw.of_none (x.none e q)
  | some c =>
    cases hr : c.ro with
    | false => exact absurd ⟨c, q, hr⟩ hs
    | true =>
      rcases x.ro b c e q hr with h | h
      · exact Rw.of_ro h hr
      · exact Rw.of_none h
theorem Step.trans {own : Addr → Prop} {h₁ h₂ h₃ : Heap} {σ₁ σ₂ σ₃ : View} (x : Step own h₁ σ₁ h₂ σ₂) (y : Step own h₂ σ₂ h₃ σ₃) : Step own h₁ σ₁ h₃ σ₃ := by
  refine ⟨fun b o e hs ho => y.keep b o (x.keep b o e hs ho) (x.notRw (Heap.lt_size e) hs) ho, Nat.le_trans x.size y.size, fun a h3 h1 => ?_, fun a c ha e hr => ?_⟩
  · cases q : σ₂ a with
    | some c => exact x.grow a (not_some q) h1
    | none => exact Nat.le_trans x.size (y.grow a h3 q)
  · rcases x.ro a c ha e hr with h | h
    · exact y.ro a c (Nat.lt_of_lt_of_le ha x.size) h hr
    · exact .inr (y.none (Nat.lt_of_lt_of_le ha x.size) h)

structure Wd where
  prog : Program
  w : World
  q : Program
  loose : List Str
  mean : ExcName → Option Value
  s₀ : Shared
  mg : Str → Option Value
  mb : Str → Option Value

structure Wd.Ok (W : Wd) : Prop where
  top : Top W.q W.loose W.mean W.mg W.mb W.s₀.heap

structure Cx where
  W : Wd
  A : Around
  env : Env
  vars : List Str
  own : Addr → Prop
  B : Addr → Prop

noncomputable def Cx.D (C : Cx) (σ : View) : Addr → Prop := fun a => σ a ≠ none ∨ C.own a ∨ C.B a

noncomputable def HasVal (h : Heap) (env : Env) (x : Str) (v : Value) : Prop :=
  (env.kindOf x = some .local ∧ ∃ m, h.Ns env.locals m ∧ m x = some v) ∨
  ((env.kindOf x = some .cell ∨ env.kindOf x = some .free) ∧ ∃ c, env.cells.lookup x = some c ∧ h.IsCell c (some v))

/-- the parts that hold of any frame of the call -/
structure Ground (C : Cx) (σ : View) (s : Shared) : Prop where
  stays : C.W.s₀.heap.StaysIn s.heap
  same : s.gens = C.W.s₀.gens ∧ s.drawn = C.W.s₀.drawn ∧ s.os = C.W.s₀.os
  fresh : ∀ a, C.D σ a → C.W.s₀.heap.objs.size ≤ a
  larger : C.W.s₀.heap.objs.size ≤ s.heap.objs.size
  sim : ∀ a c, σ a = some c → CellAt s.heap (C.D σ) a c
  apart : ∀ a, C.own a ∨ C.B a → σ a = none
  apart2 : ∀ a, C.own a → ¬ C.B a
  old : ∀ a, C.own a ∨ C.B a → ∃ o, s.heap.get? a = some o

structure FrOK (C : Cx) (σ : View) (ls : Ls) (h : Heap) : Prop where
  kind : C.env.scope.kind = .function
  glob : C.env.globals = mainGlobals
  blt : C.env.builtins = builtinsNs
  ns : ∃ m, h.Ns C.env.locals m
  ownL : C.own C.env.locals
  cells : ∀ x c, C.env.cells.lookup x = some c → (C.own c ∨ C.B c) ∧ c ≠ C.env.locals ∧ ∃ v, h.IsCell c v
  inj : ∀ x y c, C.env.cells.lookup x = some c → C.env.cells.lookup y = some c → x = y
  val : ∀ i x d, C.vars[i]? = some x → (C.env.kindOf x = some .local ∨ C.env.kindOf x = some .cell ∨ C.env.kindOf x = some .free) → ls i = some d → ∃ v, HasVal h C.env x v ∧ Real h (C.D σ) v d
  nodup : C.vars.Nodup
  has : ∀ x, (C.env.kindOf x = some .cell ∨ C.env.kindOf x = some .free) → ∃ c, C.env.cells.lookup x = some c

structure Good (C : Cx) (σ : View) (ls : Ls) (s : Shared) : Prop extends Ground C σ s where
  fr : FrOK C σ ls s.heap

theorem Ground.there {C : Cx} {σ : View} {s : Shared} (G : Ground C σ s) {a : Addr} (h : C.D σ a) : ∃ o, s.heap.get? a = some o := by
  rcases h with h | h
  · cases q : σ a with
    | none => exact absurd q h
    | some c =>
      have := G.sim a c q
      cases c with
      | list _ xs => obtain ⟨_, _, e, _⟩ := this; exact ⟨_, e⟩
      | dict _ es => obtain ⟨_, _, e, _⟩ := this; exact ⟨_, e⟩
  · exact G.old a h
theorem Ground.lt {C : Cx} {σ : View} {s : Shared} (G : Ground C σ s) {a : Addr} (h : C.D σ a) : a < s.heap.objs.size := let ⟨_, e⟩ := G.there h; Heap.lt_size e

theorem Ground.leaves {C : Cx} {σ σ' : View} {s : Shared} {h' : Heap} (_G : Ground C σ s) (S : Step C.own s.heap σ h' σ') : Leaves s.heap (C.D σ) h' (C.D σ') := fun b o e hd => by
  have h1 : σ b = none := by
    cases q : σ b with
    | none => rfl
    | some c => exact absurd (.inl (not_some q)) hd
  have h2 : ¬ C.own b := fun h => hd (.inr (.inl h))
  refine ⟨S.keep b o e (Rw.of_none h1) h2, ?_⟩
  rintro (h | h)
  · exact h (S.none (Heap.lt_size e) h1)
  · exact hd (.inr h)

theorem Ground.toks {C : Cx} {σ : View} {s : Shared} (G : Ground C σ s) (t : Nat) : Ground C σ { s with toks := t } := ⟨G.stays, G.same, G.fresh, G.larger, G.sim, G.apart, G.apart2, G.old⟩
theorem Good.toks {C : Cx} {σ : View} {ls : Ls} {s : Shared} (G : Good C σ ls s) (t : Nat) : Good C σ ls { s with toks := t } := ⟨G.toGround.toks t, G.fr⟩

/-! the heap never shrinks -/
theorem Runs.size_le {M : Model} {Γ : Ctx} {p : Pos} {t : Sem Fin} {fs : List Frame} {s s' : Shared} {e : End} (h : Runs M Γ p t fs s e s') : s.heap.objs.size ≤ s'.heap.objs.size := by
  induction h <;> (try simp only [Shared.setGen, Heap.size_push, Heap.size_after_update] at *) <;> (first | assumption | exact Nat.le_refl _ | solve_by_elim (maxDepth := 3) [Nat.le_of_lt, Nat.le_trans, Nat.lt_of_lt_of_le, Nat.lt_of_le_of_lt, n1, n2, n5, n6] | lia)
theorem Wakes.size_le {M : Model} {Γ : Ctx} {p : Pos} {g : Nat} {r : Resume} {s s' : Shared} {res : GenResult} (h : Wakes M Γ p g r s res s') : s.heap.objs.size ≤ s'.heap.objs.size := by
  unfold Wakes at h
  split at h
  · exact h.elim
  · split at h
    · obtain ⟨e₁, s₁, hr, _, _, rfl⟩ := h; exact (Runs.size_le hr : (s.setGen g .running).heap.objs.size ≤ s₁.heap.objs.size)
    · exact h.2 ▸ (Nat.le_refl _)
    · rw [h.2]; exact Nat.le_refl _
  · obtain ⟨e₁, s₁, hr, _, _, rfl⟩ := h; exact (Runs.size_le hr : (s.setGen g .running).heap.objs.size ≤ s₁.heap.objs.size)
  · rw [h.2]; exact Nat.le_refl _
  · rw [h.2]; exact Nat.le_refl _
theorem wp_size {α : Type} (M : Model) (Γ : Ctx) (n : Nat) (t : Sem α) : ∀ (Q : α → Pos → Shared → Prop) (E : Value → Pos → Shared → Prop) (p : Pos) (s : Shared), n ≤ s.heap.objs.size → Sem.wp M Γ t Q E p s →
    Sem.wp M Γ t (fun a p' s' => n ≤ s'.heap.objs.size ∧ Q a p' s') (fun e p' s' => n ≤ s'.heap.objs.size ∧ E e p' s') p s := by
  induction t with
  | pure a => intro Q E p s hn h; exact ⟨hn, h⟩
  | raise e => intro Q E p s hn h; exact ⟨hn, h⟩
  | unsupported _ => intro Q E p s _ h; exact h
  | finish _ => intro Q E p s _ h; exact h
  | rule _ k ih => intro Q E p s hn h; exact ih () Q E p s hn h
  | «at» p' k ih => intro Q E p s hn h; exact ih () Q E p' s hn h
  | load a _ k ih => intro Q E p s hn h; refine Exists.elim h ?_; rintro o hq3; exact ⟨o, hq3.1, ih o Q E p s hn hq3.2⟩
  | update a _ f k ih => intro Q E p s hn h; exact ⟨h.1, ih () Q E p _ (by rw [Heap.size_after_update]; exact hn) h.2⟩
  | loadIfAlive a k ih => intro Q E p s hn h; exact ih _ Q E p s hn h
  | point _ k ih => intro Q E p s hn h; exact ih () Q E p s hn h
  | register _ _ => intro Q E p s _ h; exact h
  | alloc o k ih => intro Q E p s hn h; exact ih _ Q E p _ (by rw [Heap.size_push]; solve_by_elim (maxDepth := 3) [Nat.le_of_lt, Nat.le_trans, Nat.lt_of_lt_of_le, Nat.lt_of_le_of_lt, n1, n2, n5, n6]) h
  | fresh k ih => intro Q E p s hn h; exact ih _ Q E p _ hn h
  | ask k ih => intro Q E p s hn h; exact ih _ Q E p s hn h
  | choose src m k ih => intro Q E p s hn h; exact ⟨h.1, ih _ Q E p _ hn h.2⟩
  | os q _ k ih => intro Q E p s hn h; exact ih _ Q E p _ hn h
  | call c hd _ _ k ih => intro Q E p s hn h; refine Exists.elim h fun r hx => ?_; obtain ⟨s', hq2⟩ := hx; exact ⟨r, s', hq2.1, ih r Q E p s' (Nat.le_trans hn (Runs.size_le hq2.1)) hq2.2⟩
  | handled own k ih => intro Q E p s hn h; exact ih _ Q E p s hn h
  | genState g k ih => intro Q E p s hn h; refine Exists.elim h ?_; rintro st hq1; exact ⟨st, hq1.1, ih _ Q E p s hn hq1.2⟩
  | newGen c k ih => intro Q E p s hn h; exact ih _ Q E p _ hn h
  | resume g r _ k ih => intro Q E p s hn h; refine Exists.elim h fun res hx => ?_; obtain ⟨s', hq0⟩ := hx; exact ⟨res, s', hq0.1, ih res Q E p s' (Nat.le_trans hn (Wakes.size_le hq0.1)) hq0.2⟩
  | yield _ _ _ _ => intro Q E p s _ h; exact h
  | stack k ih => intro Q E p s hn h; exact ih _ Q E p s hn h
  | fork _ _ => intro Q E p s _ h; exact h
  | thread k ih => intro Q E p s hn h; exact ih _ Q E p s hn h
  | await _ _ _ _ _ => intro Q E p s _ h; exact h
theorem wpAny_size {α : Type} {M : Model} {A : Around} {s : Shared} {t : Sem α} {Q : α → Shared → Prop} {E : Value → Shared → Prop} (h : wpAny M A t Q E s) :
    wpAny M A t (fun a s' => s.heap.objs.size ≤ s'.heap.objs.size ∧ Q a s') (fun e s' => s.heap.objs.size ≤ s'.heap.objs.size ∧ E e s') s :=
  fun Γ p hΓ => wp_size M Γ _ t _ _ p s (Nat.le_refl _) (h Γ p hΓ)
end Mine
end

section

open PySem PyProof.Rows
namespace Mine

/-! the mini syntax -/
inductive Op where
  | add | sub | mul | div | mod | pow | neg
  | eq | ne | lt | le | gt | ge | isIn | notIn | is | isNot
  | len | isinst (t : String) | list | tuple | dict | dictF | all | max2 | min2 | maxL | sorted | int | str
  | append | extend | popD
  | item | slice (lo hi : Bool) | rev
  | mkTup | mkList | mkListM
  deriving DecidableEq

/-- a target: one name, or two -/
inductive Tg where
  | one (i : Nat)
  | two (i j : Nat)
noncomputable def fstV : V → V
  | .tup [p, _] => p
  | _ => .none
noncomputable def sndV : V → V
  | .tup [_, q] => q
  | _ => .none
noncomputable def Tg.up (t : Tg) (v : V) (ls : Ls) : Ls := match t with
  | .one i => ls.set i v
  | .two i j => (ls.set i (fstV v)).set j (sndV v)

mutual
inductive ME where
  | var (i : Nat)
  | lit (d : V)
  | gcon (k : Nat)
  | op (o : Op) (args : MEs)
  | meth (o : Op) (obj : ME) (args : MEs)
  | dict (m : Bool) (ks : List Int) (vs : MEs)
  | and (es : MEs)
  | or (es : MEs)
  | not (e : ME)
  | call (f : Nat) (args : MEs)
  | comp (m : Bool) (elt : ME) (x : Tg) (it : MI) (ifs : MEs)
  | frz (e : ME)
inductive MEs where
  | nil
  | cons (e : ME) (es : MEs)
inductive MI where
  | seq (e : ME)
  | range (es : MEs)
  | enum (es : MEs)
end

mutual
inductive MS where
  | assign (i : Nat) (e : ME)
  | setSub (o k e : ME)
  | expr (e : ME)
  | ite (t : ME) (a b : MSs)
  | loop (t : ME) (b : MSs)
  | for1 (i : Tg) (it : MI) (b : MSs)
  | ret (e : ME)
  | freeze (i : Nat)
inductive MSs where
  | nil
  | cons (s : MS) (r : MSs)
end

/-! reading data -/
noncomputable def lstOf (σ : View) : V → Option (List V)
  | .lst xs => some xs
  | .ref a => match σ a with | some (.list _ xs) => some xs | _ => none
  | _ => none
noncomputable def seqOf (σ : View) : V → Option (List V)
  | .tup xs => some xs
  | v => lstOf σ v
noncomputable def dicOf (σ : View) : V → Option (List (Int × V))
  | .dct es => some es
  | .ref a => match σ a with | some (.dict _ es) => some es | _ => none
  | _ => none
noncomputable def charsOf (s : Str) : List V := s.cps.toList.map fun c => V.str ⟨#[c]⟩
noncomputable def itemsOf (σ : View) : V → Option (List V)
  | .str s => some (charsOf s)
  | v => match seqOf σ v with
    | some xs => some xs
    | none => (dicOf σ v).map fun es => es.map fun p => V.int p.1
noncomputable def listItems (σ : View) : V → Option (List V)
  | .str _ => none
  | v => itemsOf σ v
noncomputable def lenOf (σ : View) (v : V) : Option Nat := (itemsOf σ v).map List.length

noncomputable def lookD {α : Type} (k : Int) : List (Int × α) → Option α
  | [] => none
  | (j, v) :: r => if j = k then some v else lookD k r
noncomputable def putD {α : Type} (k : Int) (v : α) : List (Int × α) → List (Int × α)
  | [] => [(k, v)]
  | (j, w) :: r => if j = k then (j, v) :: r else (j, w) :: putD k v r
noncomputable def dropD {α : Type} (k : Int) : List (Int × α) → List (Int × α)
  | [] => []
  | (j, w) :: r => if j = k then r else (j, w) :: dropD k r

noncomputable def leafD : V → Option PyData
  | .none => some .none
  | .bool b => some (.bool b)
  | .int i => some (.int i)
  | .str s => some (.str s)
  | _ => none
noncomputable def nodeD (σ : View) (f : V → Option PyData) : V → Option PyData
  | .tup xs => (xs.mapM f).map .tuple
  | .lst xs => (xs.mapM f).map .list
  | .ref a => (lstOf σ (.ref a)).bind fun xs => (xs.mapM f).map .list
  | x => leafD x
/-- as data, through the view's lists; at most n deep -/
noncomputable def V.toD (σ : View) : Nat → V → Option PyData
  | 0 => leafD
  | n + 1 => nodeD σ (V.toD σ n)

noncomputable def truthV : V → Option Bool
  | .none => some false
  | .bool b => some b
  | _ => none

noncomputable def tyB (t k : String) : Bool := t == k || (t == "int" && k == "bool")
noncomputable def cellK : Option Cell → Option String
  | none => none
  | some c => match c with
    | .list _ _ => some "list"
    | .dict _ _ => some "dict"
noncomputable def kindV (σ : View) : V → Option String
  | .none => some "NoneType"
  | .bool _ => some "bool"
  | .int _ => some "int"
  | .str _ => some "str"
  | .tup _ => some "tuple"
  | .lst _ => some "list"
  | .dct _ => some "dict"
  | .ref a => cellK (σ a)
noncomputable def isTypeV (σ : View) (t : String) (x : V) : Option Bool := (kindV σ x).map (tyB t)

noncomputable abbrev Post := V → View → Prop

noncomputable def sglOf : V → Option (Option Bool)
  | .none => some none
  | .bool b => some (some b)
  | _ => none
noncomputable def sglIs (x : V) (y : Option Bool) : Option Bool := match x with
  | .none => some (y == none)
  | .bool a => some (y == some a)
  | _ => some false
noncomputable def sameSingle (x y : V) : Option Bool := (sglOf y).bind (sglIs x)

noncomputable def eqD (σ : View) (x y : V) : Option Bool := (x.toD σ 20).bind fun a => (y.toD σ 20).map (PyData.eqv a)
noncomputable def eqAll (σ : View) (b : List (Int × V)) : List (Int × V) → Option Bool
  | [] => some true
  | p :: r => match lookD p.1 b with
    | none => some false
    | some w => (eqD σ p.2 w).bind fun e => (eqAll σ b r).map fun t => e && t
noncomputable def eqDict (σ : View) (a b : List (Int × V)) : Option Bool := if a.length = b.length then eqAll σ b a else some false

noncomputable def eqV (σ : View) (x y : V) : Option Bool := match x.toD σ 20 with
  | some a => (y.toD σ 20).map (PyData.eqv a)
  | none => (dicOf σ x).bind fun a => (dicOf σ y).bind fun b => eqDict σ a b

noncomputable def clipI (n : Nat) (i : Int) : Nat := if i < 0 then (i + n).toNat else min i.toNat n
noncomputable def sliceL {α : Type} (xs : List α) (lo : Int) (hi : Option Int) : List α := (xs.take (hi.elim xs.length (clipI xs.length))).drop (clipI xs.length lo)

noncomputable def strLe (a b : Str) : Bool := !(decide (b.cps.toList < a.cps.toList))

noncomputable def idxOf (i : Int) (n : Nat) : Option Nat := if 0 ≤ i then (if i < n then some i.toNat else none) else (if -(n : Int) ≤ i then some (i + n).toNat else none)

noncomputable def ints? : List V → Option (List Int)
  | [] => some []
  | .int i :: r => (ints? r).map (i :: ·)
  | _ :: _ => none
noncomputable def bools? : List V → Option (List Bool)
  | [] => some []
  | .bool b :: r => (bools? r).map (b :: ·)
  | _ :: _ => none
noncomputable def strs? : List V → Option (List Str)
  | [] => some []
  | .str b :: r => (strs? r).map (b :: ·)
  | _ :: _ => none

noncomputable def big : Nat := 2 ^ 24
noncomputable def smallI (i : Int) : Bool := decide (-(2 ^ 62) < i) && decide (i < 2 ^ 62)

noncomputable def inT (k : Str) : V → Option Bool
  | .tup xs => (strs? xs).map fun ks => ks.contains k
  | _ => none
noncomputable def inV (σ : View) (x : V) : V → Option Bool := match x with
  | .int k => fun d => (dicOf σ d).map fun es => (lookD k es).isSome
  | .str k => inT k
  | _ => fun _ => none

noncomputable def sliceV (σ : View) (x : V) (a : Int) (b : Option Int) : Option V :=
  match x with
  | .tup xs => some (.tup (sliceL xs a b))
  | x => (lstOf σ x).map fun xs => .lst (sliceL xs a b)

noncomputable def int1 (f : Int → Option V) : V → Option V
  | .int a => f a
  | _ => none
noncomputable def str1 (f : Str → Option V) : V → Option V
  | .str a => f a
  | _ => none
noncomputable def tup1 (f : List V → Option V) : V → Option V
  | .tup a => f a
  | _ => none
noncomputable def itemQ (σ : View) (x : V) (i : Int) : Option V := match seqOf σ x with
  | some xs => (idxOf i xs.length).bind fun j => xs[j]?
  | none => (dicOf σ x).bind fun es => lookD i es
noncomputable def itemV (σ : View) (x : V) : V → Option V := int1 (itemQ σ x)
noncomputable def addL (σ : View) (x y : V) : Option V := (lstOf σ x).bind fun a => (lstOf σ y).bind fun b => if a.length + b.length ≤ big then some (.lst (a ++ b)) else none
noncomputable def addV (σ : View) (x : V) : V → Option V := match x with
  | .int a => int1 fun b => some (.int (a + b))
  | .str a => str1 fun b => if a.length + b.length ≤ big then some (.str (a ++ b)) else none
  | .tup a => tup1 fun b => if a.length + b.length ≤ big then some (.tup (a ++ b)) else none
  | x => addL σ x

noncomputable def mulFits (a b : Int) : Bool := !(decide (Builtin.Int.intBits a > shortFactorBits) && decide (Builtin.Int.intBits b > shortFactorBits) && Builtin.Int.intTooBig (Builtin.Int.intBits a + Builtin.Int.intBits b))

noncomputable def mulV (_σ : View) (x : V) : V → Option V := match x with
  | .int a => int1 fun b => if mulFits a b then some (.int (a * b)) else none
  | .str a => int1 fun n => if a.length * n.toNat ≤ big ∧ smallI n = true then some (.str ⟨(List.replicate n.toNat a.cps.toList).flatten.toArray⟩) else none
  | _ => fun _ => none

noncomputable def on1 (f : V → Option V) : List V → Option V
  | [] => none
  | x :: r => match r with
    | [] => f x
    | _ :: _ => none
noncomputable def on2 (f : V → V → Option V) : List V → Option V
  | [] => none
  | x :: r => on1 (f x) r
noncomputable def on3 (f : V → V → V → Option V) : List V → Option V
  | [] => none
  | x :: r => on2 (f x) r
noncomputable def int2 (f : Int → Int → Option V) (x y : V) : Option V := int1 (fun a => int1 (f a) y) x
noncomputable def bool1 (f : Bool → Option V) : V → Option V
  | .bool a => f a
  | _ => none
noncomputable def maxV (ks : List Int) : Int := ks.getD (argBest (fun i j => decide (ks.getD i 0 > ks.getD j 0)) (ks.length - 1)) 0
/-- sorted, of numbers that rise but for the last one, which is the least -/
noncomputable def sortV (ks : List Int) : Option (List Int) := match ks.reverse with
  | m :: r => if r.reverse.Pairwise (· < ·) ∧ ∀ x ∈ r, m < x then some (m :: r.reverse) else none
  | [] => none
noncomputable def revV : V → V → Option V
  | .tup xs, .int i => if i = -1 then some (.tup xs.reverse) else none
  | _, _ => none
noncomputable def ordT (f : Int → Int → Bool) (g : Str → Str → Bool) : V → V → Option V
  | .int a => int1 fun b => some (.bool (f a b))
  | .str a => str1 fun b => some (.bool (g a b))
  | _ => fun _ => none
noncomputable def ordV (f : Int → Int → Bool) (g : Str → Str → Bool) : List V → Option V := on2 (ordT f g)
/-- what an operation without effects gives -/
noncomputable def pureOp (o : Op) (σ : View) (vs : List V) : Option V :=
  match o with
  | .add => on2 (addV σ) vs
  | .sub => on2 (int2 fun a b => some (.int (a - b))) vs
  | .mul => on2 (mulV σ) vs
  | .div => on2 (int2 fun a b => if 0 < b ∧ b < 2 ^ 29 then some (.int (a / b)) else none) vs
  | .mod => on2 (int2 fun a b => if 0 < b then some (.int (a % b)) else none) vs
  | .pow => on2 (int2 fun a b => if 1 < a ∧ a ≤ 10 ∧ 0 < b ∧ b ≤ 100 then some (.int (a ^ b.toNat)) else none) vs
  | .neg => on1 (int1 fun a => some (.int (-a))) vs
  | .eq => on2 (fun x y => (eqV σ x y).map .bool) vs
  | .ne => on2 (fun x y => (eqV σ x y).map fun b => .bool (!b)) vs
  | .lt => ordV (fun a b => decide (a < b)) (fun a b => !strLe b a) vs
  | .le => ordV (fun a b => decide (a ≤ b)) strLe vs
  | .gt => on2 (int2 fun a b => some (.bool (decide (b < a)))) vs
  | .ge => on2 (int2 fun a b => some (.bool (decide (b ≤ a)))) vs
  | .isIn => on2 (fun x y => (inV σ x y).map .bool) vs
  | .notIn => on2 (fun x y => (inV σ x y).map fun b => .bool (!b)) vs
  | .is => on2 (fun x y => (sameSingle x y).map .bool) vs
  | .isNot => on2 (fun x y => (sameSingle x y).map fun b => .bool (!b)) vs
  | .len => on1 (fun x => (lenOf σ x).map fun (n : Nat) => V.int (n : Int)) vs
  | .isinst t => on1 (fun x => (isTypeV σ t x).map .bool) vs
  | .list => on1 (fun x => (listItems σ x).map .lst) vs
  | .tuple => on1 (fun x => (seqOf σ x).map .tup) vs
  | .dictF => on1 (fun x => (dicOf σ x).map .dct) vs
  | .all => on1 (fun x => (lstOf σ x).bind fun xs => (bools? xs).map fun bs => .bool (bs.all id)) vs
  | .max2 => on2 (int2 fun a b => some (.int (max a b))) vs
  | .min2 => on2 (int2 fun a b => some (.int (min a b))) vs
  | .int => on1 (bool1 fun b => some (.int (if b then 1 else 0))) vs
  | .str => on1 (int1 fun i => if i.natAbs < 10 ^ 70 then some (.str (Str.ofString (toString i))) else none) vs
  | .item => on2 (itemV σ) vs
  | .slice lo hi => if lo then (if hi then on3 (fun x => int2 fun a b => sliceV σ x a (some b)) vs else on2 (fun x => int1 fun a => sliceV σ x a none) vs) else (if hi then on2 (fun x => int1 fun b => sliceV σ x 0 (some b)) vs else none)
  | .maxL => on1 (fun x => (lstOf σ x).bind fun xs => (ints? xs).bind fun ks => if 0 < ks.length then some (.int (maxV ks)) else none) vs
  | .sorted => on1 (fun x => (lstOf σ x).bind fun xs => (ints? xs).bind fun ks => (sortV ks).map fun r => .lst (r.map .int)) vs
  | .rev => on2 revV vs
  | .mkTup => if vs.length ≤ 1000 then some (.tup vs) else none
  | .mkList => if vs.length ≤ 1000 then some (.lst vs) else none
  | _ => none
theorem on1_some {f : V → Option V} {vs : List V} {d : V} (h : on1 f vs = some d) : ∃ x, vs = [x] ∧ f x = some d := by
  cases vs with
  | nil => exact nn h
  | cons x r =>
    cases r with
    | nil => exact ⟨x, rfl, h⟩
    | cons _ _ => exact nn h
theorem on2_some {f : V → V → Option V} {vs : List V} {d : V} (h : on2 f vs = some d) : ∃ x y, vs = [x, y] ∧ f x y = some d := by
  cases vs with
  | nil => exact nn h
  | cons x r => obtain ⟨y, rfl, h⟩ := on1_some h; exact ⟨x, y, rfl, h⟩
theorem on3_some {f : V → V → V → Option V} {vs : List V} {d : V} (h : on3 f vs = some d) : ∃ x y z, vs = [x, y, z] ∧ f x y z = some d := by
  cases vs with
  | nil => exact nn h
  | cons x r => obtain ⟨y, z, rfl, h⟩ := on2_some h; exact ⟨x, y, z, rfl, h⟩
theorem int1_some {f : Int → Option V} {x d : V} (h : int1 f x = some d) : ∃ a, x = .int a ∧ f a = some d := by
  cases x with
  | int a => exact ⟨a, rfl, h⟩
  | _ => exact nn h
theorem int2_some {f : Int → Int → Option V} {x y d : V} (h : int2 f x y = some d) : ∃ a b, x = .int a ∧ y = .int b ∧ f a b = some d := by
  refine Exists.elim (int1_some h) ?_; rintro a hq1
  obtain ⟨b, hq0⟩ := int1_some hq1.2
  exact ⟨a, b, hq1.1, hq0.1, hq0.2⟩
theorem bool1_some {f : Bool → Option V} {x d : V} (h : bool1 f x = some d) : ∃ a, x = .bool a ∧ f a = some d := by
  cases x with
  | bool a => exact ⟨a, rfl, h⟩
  | _ => exact nn h
theorem str1_some {f : Str → Option V} {x d : V} (h : str1 f x = some d) : ∃ a, x = .str a ∧ f a = some d := by
  cases x with
  | str a => exact ⟨a, rfl, h⟩
  | _ => exact nn h
theorem tup1_some {f : List V → Option V} {x d : V} (h : tup1 f x = some d) : ∃ a, x = .tup a ∧ f a = some d := by
  cases x with
  | tup a => exact ⟨a, rfl, h⟩
  | _ => exact nn h
theorem ite_some {c : Prop} [Decidable c] {a d : V} (e : (if c then some a else none) = some d) : c ∧ d = a := by
  by_cases h : c
  · rw [if_pos h] at e; exact ⟨h, (Option.some.inj e).symm⟩
  · rw [if_neg h] at e; exact nn e

noncomputable def q1 (f : V → Prop) : List V → Prop
  | [] => False
  | x :: r => match r with
    | [] => f x
    | _ :: _ => False
noncomputable def q2 (f : V → V → Prop) : List V → Prop
  | [] => False
  | x :: r => q1 (f x) r
noncomputable def onR (f : Addr → Prop) : V → Prop
  | .ref a => f a
  | _ => False
noncomputable def onI (f : Int → Prop) : V → Prop
  | .int a => f a
  | _ => False
noncomputable def onL (f : List V → Prop) : V → Prop
  | .lst a => f a
  | _ => False
theorem q1_inv {f : V → Prop} {vs : List V} (h : q1 f vs) : ∃ x, vs = [x] ∧ f x := by
  cases vs with
  | nil => exact h.elim
  | cons x r =>
    cases r with
    | nil => exact ⟨x, rfl, h⟩
    | cons _ _ => exact h.elim
theorem q2_inv {f : V → V → Prop} {vs : List V} (h : q2 f vs) : ∃ x y, vs = [x, y] ∧ f x y := by
  cases vs with
  | nil => exact h.elim
  | cons x r => refine Exists.elim (q1_inv h) fun y hx => ?_; obtain ⟨rfl, h⟩ := hx; exact ⟨x, y, rfl, h⟩
theorem onR_inv {f : Addr → Prop} {v : V} (h : onR f v) : ∃ a, v = .ref a ∧ f a := by
  cases v with
  | ref a => exact ⟨a, rfl, h⟩
  | _ => exact h.elim
theorem onI_inv {f : Int → Prop} {v : V} (h : onI f v) : ∃ a, v = .int a ∧ f a := by
  cases v with
  | int a => exact ⟨a, rfl, h⟩
  | _ => exact h.elim
theorem onL_inv {f : List V → Prop} {v : V} (h : onL f v) : ∃ a, v = .lst a ∧ f a := by
  cases v with
  | lst a => exact ⟨a, rfl, h⟩
  | _ => exact h.elim
/-- the operations with effects, and the others -/
noncomputable def prim (o : Op) (vs : List V) (Q : Post) (σ : View) : Prop :=
  match o with
  | .dict => q1 (fun x => ∃ es, dicOf σ x = some es ∧ ∀ a, σ a = none → Q (.ref a) (σ.upd a (.dict false es))) vs
  | .append => q2 (fun r x => onR (fun a => ∃ xs, σ a = some (.list false xs) ∧ xs.length < big ∧ Q .none (σ.upd a (.list false (xs ++ [x])))) r) vs
  | .extend => q2 (fun r y => onR (fun a => onL (fun ys => ∃ xs, σ a = some (.list false xs) ∧ xs.length + ys.length ≤ big ∧ Q .none (σ.upd a (.list false (xs ++ ys)))) y) r) vs
  | .popD => q2 (fun r y => onR (fun a => onI (fun k => ∃ es x, σ a = some (.dict false es) ∧ lookD k es = some x ∧ Q x (σ.upd a (.dict false (dropD k es)))) y) r) vs
  | .mkListM => vs.length ≤ 1000 ∧ ∀ a, σ a = none → Q (.ref a) (σ.upd a (.list false vs))
  | o => ∃ d, pureOp o σ vs = some d ∧ Q d σ

/-- the object a method is looked up in -/
noncomputable def methOk (o : Op) (x : V) (σ : View) : Prop := match o with
  | .append => ∃ l ro xs, x = .ref l ∧ σ l = some (.list ro xs)
  | .extend => ∃ l ro xs, x = .ref l ∧ σ l = some (.list ro xs)
  | .popD => ∃ es, dicOf σ x = some es
  | _ => False

noncomputable abbrev Spec := Nat → List V → Post → View → Prop

/-- numbers from a on, below b (steps of one) -/
noncomputable def rangeL (a b _c : Int) : List Int := (List.range (b - a).toNat).map fun (k : Nat) => a + (k : Int)
noncomputable def intL (f : Int → Option (List V)) : V → Option (List V)
  | .int a => f a
  | _ => none
noncomputable def rangeXs : List V → Option (List V)
  | [] => none
  | x :: r => match r with
    | [] => intL (fun b => if smallI b then some ((rangeL 0 b 1).map .int) else none) x
    | y :: q => match q with
      | [] => intL (fun a => intL (fun b => if smallI a && smallI b then some ((rangeL a b 1).map .int) else none) y) x
      | _ :: _ => none
noncomputable def enumV (i : Nat) (x : V) : V := .tup [.int (i : Nat), x]
/-- what a loop goes through: 0 a value's items, 1 a range, 2 enumerate -/
noncomputable def itXs (k : Nat) (σ : View) (vs : List V) : Option (List V) :=
  match k with
  | 0 => match vs with
    | [x] => itemsOf σ x
    | _ => none
  | 1 => rangeXs vs
  | 2 => match vs with
    | [x] => (lstOf σ x).map fun xs => xs.mapIdx enumV
    | _ => none
  | _ => none
/-- while it is gone through, it is only read -/
noncomputable def lockV (σ : View) : List V → View
  | [.ref a] => match σ a with
    | some c => σ.upd a c.lock
    | none => σ
  | _ => σ
noncomputable def unlockV (σ₀ : View) (vs : List V) (σ : View) : View := match vs with
  | [.ref a] => match σ₀ a, σ a with
    | some (.list r xs), some _ => σ.upd a (.list r xs)
    | some (.dict r es), some _ => σ.upd a (.dict r es)
    | _, _ => σ
  | _ => σ
noncomputable def itWp (k : Nat) (vs : List V) (Q : List V → List V → View → Prop) (σ : View) : Prop := ∃ xs, itXs k σ vs = some xs ∧ Q xs vs σ

mutual
noncomputable def ewp (Φ : Spec) (G : Nat → V) (ls : Ls) : ME → Post → View → Prop
  | .var i, Q, σ => ∃ d, ls i = some d ∧ Q d σ
  | .lit d, Q, σ => Q d σ
  | .gcon k, Q, σ => Q (G k) σ
  | .op o args, Q, σ => ewps Φ G ls args (fun vs σ' => prim o vs Q σ') σ
  | .meth o obj args, Q, σ => ewp Φ G ls obj (fun x σ₁ => methOk o x σ₁ ∧ ewps Φ G ls args (fun vs σ₂ => prim o (x :: vs) Q σ₂) σ₁) σ
  | .dict m ks vs, Q, σ => ewps Φ G ls vs (fun vv σ₂ => ks.Nodup ∧ ks.length = vv.length ∧ (if m then ∀ a, σ₂ a = none → Q (.ref a) (σ₂.upd a (.dict false (ks.zip vv))) else Q (.dct (ks.zip vv)) σ₂)) σ
  | .and es, Q, σ => ewpAnd Φ G ls es Q σ
  | .or es, Q, σ => ewpOr Φ G ls es Q σ
  | .not e, Q, σ => ewp Φ G ls e (fun d σ' => ∃ b, truthV d = some b ∧ Q (.bool (!b)) σ') σ
  | .call f args, Q, σ => ewps Φ G ls args (fun vs σ' => Φ f vs Q σ') σ
  | .comp m elt x it ifs, Q, σ => ewpI Φ G ls it (fun xs u σ₁ => xs.length ≤ big ∧ ∃ I : Nat → List V → View → Prop, I 0 [] (lockV σ₁ u) ∧
      (∀ k v acc σ₂, xs[k]? = some v → I k acc σ₂ → ewpIfs Φ G (x.up v ls) ifs (fun b σ₃ => if b then ewp Φ G (x.up v ls) elt (fun d σ₄ => I (k + 1) (acc ++ [d]) σ₄) σ₃ else I (k + 1) acc σ₃) σ₂) ∧
      (∀ acc σ₂, I xs.length acc σ₂ → if m then ∀ a, unlockV σ₁ u σ₂ a = none → Q (.ref a) ((unlockV σ₁ u σ₂).upd a (.list false acc)) else Q (.lst acc) (unlockV σ₁ u σ₂))) σ
  | .frz e, Q, σ => ewp Φ G ls e (fun d σ' => ∃ a, d = .ref a ∧ ((∃ xs, σ' a = some (.list false xs) ∧ Q (.lst xs) (σ'.del a)) ∨ (∃ es, σ' a = some (.dict false es) ∧ Q (.dct es) (σ'.del a)))) σ
noncomputable def ewps (Φ : Spec) (G : Nat → V) (ls : Ls) : MEs → (List V → View → Prop) → View → Prop
  | .nil, Q, σ => Q [] σ
  | .cons e es, Q, σ => ewp Φ G ls e (fun v σ' => ewps Φ G ls es (fun vs σ'' => Q (v :: vs) σ'') σ') σ
noncomputable def ewpAnd (Φ : Spec) (G : Nat → V) (ls : Ls) : MEs → Post → View → Prop
  | .nil, _, _ => False
  | .cons e .nil, Q, σ => ewp Φ G ls e Q σ
  | .cons e es, Q, σ => ewp Φ G ls e (fun d σ' => ∃ b, truthV d = some b ∧ (if b then ewpAnd Φ G ls es Q σ' else Q d σ')) σ
noncomputable def ewpOr (Φ : Spec) (G : Nat → V) (ls : Ls) : MEs → Post → View → Prop
  | .nil, _, _ => False
  | .cons e .nil, Q, σ => ewp Φ G ls e Q σ
  | .cons e es, Q, σ => ewp Φ G ls e (fun d σ' => ∃ b, truthV d = some b ∧ (if b then Q d σ' else ewpOr Φ G ls es Q σ')) σ
noncomputable def ewpIfs (Φ : Spec) (G : Nat → V) (ls : Ls) : MEs → (Bool → View → Prop) → View → Prop
  | .nil, Q, σ => Q true σ
  | .cons e es, Q, σ => ewp Φ G ls e (fun d σ' => ∃ b, truthV d = some b ∧ (if b then ewpIfs Φ G ls es Q σ' else Q false σ')) σ
noncomputable def ewpI (Φ : Spec) (G : Nat → V) (ls : Ls) : MI → (List V → List V → View → Prop) → View → Prop
  | .seq e, Q, σ => ewp Φ G ls e (fun d σ' => itWp 0 [d] Q σ') σ
  | .range es, Q, σ => ewps Φ G ls es (fun vs σ' => itWp 1 vs Q σ') σ
  | .enum es, Q, σ => ewps Φ G ls es (fun vs σ' => itWp 2 vs Q σ') σ
end

/-- a test, as `if` and `while` ask it -/
noncomputable def twp (Φ : Spec) (G : Nat → V) (ls : Ls) (e : ME) (Q : Bool → View → Prop) (σ : View) : Prop := ewp Φ G ls e (fun d σ' => ∃ b, truthV d = some b ∧ Q b σ') σ

mutual
noncomputable def swp (Φ : Spec) (G : Nat → V) : MS → (View → Ls → Prop) → Post → View → Ls → Prop
  | .assign i e, Q, _, σ, ls => ewp Φ G ls e (fun d σ' => Q σ' (ls.set i d)) σ
  | .setSub o k e, Q, _, σ, ls => ewp Φ G ls e (fun d σ₁ => ewp Φ G ls o (fun x σ₂ => ewp Φ G ls k (fun y σ₃ => ∃ a j es, x = .ref a ∧ y = .int j ∧ σ₃ a = some (.dict false es) ∧ es.length < big ∧ Q (σ₃.upd a (.dict false (putD j d es))) ls) σ₂) σ₁) σ
  | .expr e, Q, _, σ, ls => ewp Φ G ls e (fun _ σ' => Q σ' ls) σ
  | .ite t a b, Q, R, σ, ls => twp Φ G ls t (fun c σ' => if c then swps Φ G a Q R σ' ls else swps Φ G b Q R σ' ls) σ
  | .loop t b, Q, R, σ, ls => ∃ I : Nat → View → Ls → Prop, (∃ n, I n σ ls) ∧
      ∀ n σ₁ ls₁, I n σ₁ ls₁ → twp Φ G ls₁ t (fun c σ₂ => if c then swps Φ G b (fun σ₃ ls₃ => ∃ m, m < n ∧ I m σ₃ ls₃) R σ₂ ls₁ else Q σ₂ ls₁) σ₁
  | .for1 i it b, Q, R, σ, ls => ewpI Φ G ls it (fun xs u σ₁ => ∃ I : Nat → View → Ls → Prop, I 0 (lockV σ₁ u) ls ∧
      (∀ k v σ₂ ls₂, xs[k]? = some v → I k σ₂ ls₂ → swps Φ G b (fun σ₃ ls₃ => I (k + 1) σ₃ ls₃) (fun d σ₃ => R d (unlockV σ₁ u σ₃)) σ₂ (i.up v ls₂)) ∧
      (∀ σ₂ ls₂, I xs.length σ₂ ls₂ → Q (unlockV σ₁ u σ₂) ls₂)) σ
  | .ret e, _, R, σ, ls => ewp Φ G ls e R σ
  | .freeze i, Q, _, σ, ls => ∃ a, ls i = some (.ref a) ∧ ((∃ xs, σ a = some (.list false xs) ∧ Q (σ.del a) (ls.set i (.lst xs))) ∨ (∃ es, σ a = some (.dict false es) ∧ Q (σ.del a) (ls.set i (.dct es))))
noncomputable def swps (Φ : Spec) (G : Nat → V) : MSs → (View → Ls → Prop) → Post → View → Ls → Prop
  | .nil, Q, _, σ, ls => Q σ ls
  | .cons s r, Q, R, σ, ls => swp Φ G s (fun σ' ls' => swps Φ G r Q R σ' ls') R σ ls
end
end Mine
end

section

open PySem PyProof.Rows
namespace Mine

inductive EOut (C : Cx) (ls : Ls) {α : Type} (Q : α → View → Shared → Prop) (h : Heap) (σ : View) (a : α) (s' : Shared) : Prop
  | mk (σ' : View) : Good C σ' ls s' → Step C.own h σ s'.heap σ' → Q a σ' s' → EOut C ls Q h σ a s'
/-- from this state the tree ends well, the frame's good state kept -/
noncomputable def TrE (C : Cx) (ls : Ls) {α : Type} (t : Sem α) (Q : α → View → Shared → Prop) (σ : View) (s : Shared) : Prop :=
  wpAny (model C.W.prog C.W.w) C.A t (EOut C ls Q s.heap σ) (fun _ _ => False) s

section
variable {C : Cx} {ls : Ls} {α β : Type} {σ : View} {s : Shared}

theorem TrE.mono {t : Sem α} {Q Q' : α → View → Shared → Prop} (h : TrE C ls t Q σ s) (k : ∀ a σ' s', Good C σ' ls s' → Step C.own s.heap σ s'.heap σ' → Q a σ' s' → Q' a σ' s') : TrE C ls t Q' σ s :=
  wpAny_mono h (fun a s' hx => by obtain ⟨σ', G, S, q⟩ := hx; exact ⟨σ', G, S, k a σ' s' G S q⟩) fun _ _ x => x
/-- at the end of a tree -/
theorem TrE.end {Q : α → View → Shared → Prop} {a : α} (G : Good C σ ls s) (h : Q a σ s) : EOut C ls Q s.heap σ a s := ⟨σ, G, Step.refl _ _ _, h⟩
theorem TrE.pure {Q : α → View → Shared → Prop} {a : α} (G : Good C σ ls s) (h : Q a σ s) : TrE C ls (pure a) Q σ s := wpAny_pure (TrE.end G h)
theorem TrE.bind {m : Sem α} {f : α → Sem β} {Q : β → View → Shared → Prop} (h : TrE C ls m (fun a σ' s' => TrE C ls (f a) Q σ' s') σ s) : TrE C ls (m >>= f) Q σ s :=
  wpAny_bind (wpAny_mono h (fun _ _ hx => by obtain ⟨_, _, S, h'⟩ := hx; exact wpAny_mono h' (fun _ _ hx => by obtain ⟨σ'', G', S', q⟩ := hx; exact ⟨σ'', G', S.trans S', q⟩) fun _ _ x => x) fun _ _ x => x)
theorem TrE.holding {vs : List Value} {m : Sem α} {Q : α → View → Shared → Prop} (h : TrE C ls m Q σ s) : TrE C ls (holding vs m) Q σ s := wpAny_holding h
theorem TrE.standAt {pos : Pos} {Q : Unit → View → Shared → Prop} (G : Good C σ ls s) (h : Q () σ s) : TrE C ls (standAt pos) Q σ s := wpAny_standAt (TrE.end G h)
theorem TrE.operate {vs : List Value} {m : Sem Value} {Q : Value → View → Shared → Prop} (h : TrE C ls m Q σ s) : TrE C ls (operate vs m) Q σ s := wpAny_operate' h
/-- a tree that changes nothing but tokens -/
theorem TrE.quiet {t : Sem α} {Q : α → View → Shared → Prop} (G : Good C σ ls s) (h : wpAny (model C.W.prog C.W.w) C.A t (fun a s' => (∃ tk, s' = { s with toks := tk }) ∧ Q a σ s') (fun _ _ => False) s) : TrE C ls t Q σ s :=
  wpAny_mono h (fun a s' hx => by obtain ⟨⟨tk, e⟩, q⟩ := hx; exact ⟨σ, by rw [e]; exact G.toks tk, by rw [e]; exact Step.refl _ _ _, q⟩) fun _ _ x => x

theorem Good.leaves {σ' : View} {h' : Heap} (G : Good C σ ls s) (S : Step C.own s.heap σ h' σ') : Leaves s.heap (C.D σ) h' (C.D σ') := G.toGround.leaves S
theorem Real.step {σ' : View} {h' : Heap} {v : Value} {x : V} (r : Real s.heap (C.D σ) v x) (G : Good C σ ls s) (S : Step C.own s.heap σ h' σ') : Real h' (C.D σ') v x := r.leaves (G.leaves S)
theorem Reals.step {σ' : View} {h' : Heap} {vs : List Value} {xs : List V} (r : Reals s.heap (C.D σ) vs xs) (G : Good C σ ls s) (S : Step C.own s.heap σ h' σ') : Reals h' (C.D σ') vs xs := r.leaves (G.leaves S)
end

/-- values read as data -/
inductive RV (C : Cx) (Q : Post) (v : Value) (σ : View) (s : Shared) : Prop
  | mk (x : V) : Real s.heap (C.D σ) v x → Q x σ → RV C Q v σ s
theorem Reals.length {h : Heap} {D : Addr → Prop} {vs : List Value} {xs : List V} (r : Reals h D vs xs) : vs.length = xs.length := by
  induction xs generalizing vs with
  | nil => exact congrArg List.length r.nil_i
  | cons x xs ih => obtain ⟨v, ws, rfl, a, b⟩ := r.cons_i; exact congrArg Nat.succ (ih b)
theorem Reals.get {h : Heap} {D : Addr → Prop} {vs : List Value} {xs : List V} (r : Reals h D vs xs) {i : Nat} {x : V} (e : xs[i]? = some x) : ∃ v, vs[i]? = some v ∧ Real h D v x := by
  induction xs generalizing vs i with
  | nil => exact nn e
  | cons y xs ih =>
    obtain ⟨v, ws, rfl, a, b⟩ := r.cons_i
    cases i with
    | zero => exact ⟨v, rfl, Option.some.inj e ▸ a⟩
    | succ i => exact ih b e
theorem Reals.get' {h : Heap} {D : Addr → Prop} {vs : List Value} {xs : List V} (r : Reals h D vs xs) {i : Nat} {v : Value} (e : vs[i]? = some v) : ∃ x, xs[i]? = some x ∧ Real h D v x := by
  induction xs generalizing vs i with
  | nil => obtain rfl := r.nil_i; exact nn e
  | cons y xs ih =>
    obtain ⟨w, ws, rfl, a, b⟩ := r.cons_i
    cases i with
    | zero => exact ⟨y, rfl, Option.some.inj e ▸ a⟩
    | succ i => exact ih b e
theorem Reals.append {h : Heap} {D : Addr → Prop} {vs ws : List Value} {xs ys : List V} (r : Reals h D vs xs) (k : Reals h D ws ys) : Reals h D (vs ++ ws) (xs ++ ys) := by
  induction xs generalizing vs with
  | nil => obtain rfl := r.nil_i; exact k
  | cons y xs ih => obtain ⟨v, ws, rfl, a, b⟩ := r.cons_i; exact .cons a (ih b)
theorem Reals.take {h : Heap} {D : Addr → Prop} {vs : List Value} {xs : List V} (n : Nat) (r : Reals h D vs xs) : Reals h D (vs.take n) (xs.take n) := by
  induction xs generalizing vs n with
  | nil => obtain rfl := r.nil_i; simp only [List.take_nil, List.take_nil]; exact .nil
  | cons y xs ih =>
    obtain ⟨v, ws, rfl, a, b⟩ := r.cons_i
    cases n with
    | zero => exact .nil
    | succ n => exact .cons a (ih n b)
theorem Reals.drop {h : Heap} {D : Addr → Prop} {vs : List Value} {xs : List V} (n : Nat) (r : Reals h D vs xs) : Reals h D (vs.drop n) (xs.drop n) := by
  induction xs generalizing vs n with
  | nil => obtain rfl := r.nil_i; simp only [List.drop_nil, List.drop_nil]; exact .nil
  | cons y xs ih =>
    cases n with
    | zero => exact r
    | succ n => obtain ⟨v, ws, rfl, a, b⟩ := r.cons_i; exact ih n b
theorem Reals.reverse {h : Heap} {D : Addr → Prop} {vs : List Value} {xs : List V} (r : Reals h D vs xs) : Reals h D vs.reverse xs.reverse := by
  induction xs generalizing vs with
  | nil => obtain rfl := r.nil_i; exact .nil
  | cons y xs ih => obtain ⟨v, ws, rfl, a, b⟩ := r.cons_i; simp only [List.reverse_cons, List.reverse_cons]; exact (ih b).append (.cons a .nil)
theorem RealD.length {h : Heap} {D : Addr → Prop} {es : List DictEntry} {xs : List (Int × V)} (r : RealD h D es xs) : es.length = xs.length := by
  induction es generalizing xs with
  | nil => exact r.nil_i ▸ rfl
  | cons e es ih => obtain ⟨k, t, x, ys, rfl, _, _, _, r'⟩ := r.cons_i; exact congrArg Nat.succ (ih r')

/-! new objects, changed objects -/
section
variable {C : Cx} {ls : Ls} {σ : View} {s : Shared}

theorem Good.newAddr (G : Good C σ ls s) : ¬ C.D σ s.heap.objs.size := fun h => absurd (G.toGround.lt h) (Nat.lt_irrefl _)
theorem HasVal.at {h h' : Heap} {env : Env} {x : Str} {v : Value} (k : ∀ b, b = env.locals ∨ (∃ y, env.cells.lookup y = some b) → ∀ o, h.get? b = some o → h'.get? b = some o) (hv : HasVal h env x v) : HasVal h' env x v := by
  rcases hv with ⟨a, m, n, e⟩ | ⟨a, c, e, o, ho, hd⟩
  · exact .inl ⟨a, m, n.at' (k _ (.inl rfl)), e⟩
  · exact .inr ⟨a, c, e, o, k c (.inr ⟨_, e⟩) o ho, hd⟩
theorem HasVal.keeps {h h' : Heap} {env : Env} {x : Str} {v : Value} (k : ∀ b o, h.get? b = some o → h'.get? b = some o) (hv : HasVal h env x v) : HasVal h' env x v := hv.at fun b _ o e => k b o e

/-- the heap and the view change, the frame's own objects stay -/
theorem Good.change {σ' : View} {h' : Heap} {tk : Nat} (G : Good C σ ls s) (S : Step C.own s.heap σ h' σ')
    (own : ∀ b, C.own b → ∀ o, s.heap.get? b = some o → h'.get? b = some o)
    (sub : ∀ a, σ' a ≠ none → C.W.s₀.heap.objs.size ≤ a) (ap : ∀ a, C.own a ∨ C.B a → σ' a = none)
    (sim : ∀ a c, σ' a = some c → CellAt h' (C.D σ') a c) : Good C σ' ls { s with heap := h', toks := tk } := by
  have keepOB : ∀ b, C.own b ∨ C.B b → ∀ o, s.heap.get? b = some o → h'.get? b = some o := fun b hb o e => by
    rcases hb with hb | hb
    · exact own b hb o e
    · exact S.keep b o e (Rw.of_none (G.apart b (.inr hb))) fun ho => G.apart2 b ho hb
  have L := G.leaves S
  refine ⟨⟨fun b o e => ?_, G.same, fun a h => ?_, Nat.le_trans G.larger S.size, sim, ap, G.apart2, fun a h => let ⟨o, e⟩ := G.old a h; ⟨o, keepOB a h o e⟩⟩, ?_⟩
  · have hd : ¬ C.D σ b := fun hd => absurd (Heap.lt_size e) (Nat.not_lt.mpr (G.fresh b hd))
    exact (L b o (G.stays b o e) hd).1
  · rcases h with h | h
    · exact sub a h
    · exact G.fresh a (.inr h)
  · have F := G.fr
    obtain ⟨m, hm⟩ := F.ns
    refine ⟨F.kind, F.glob, F.blt, ⟨m, hm.at' fun o e => keepOB _ (.inl F.ownL) o e⟩, F.ownL, fun x c e => ?_, F.inj, fun i x d e1 e2 e3 => ?_, F.nodup, F.has⟩
    · obtain ⟨h1, h2, v, o, hq1⟩ := F.cells x c e
      exact ⟨h1, h2, v, o, keepOB c h1 o hq1.1, hq1.2⟩
    · obtain ⟨v, hq0⟩ := F.val i x d e1 e2 e3
      refine ⟨v, hq0.1.at fun b hb o e => ?_, hq0.2.leaves L⟩
      rcases hb with rfl | ⟨y, hy⟩
      · exact keepOB _ (.inl F.ownL) o e
      · exact keepOB b (F.cells y b hy).1 o e

theorem CellAt.leaves {h h' : Heap} {D D' : Addr → Prop} {a : Addr} {c : Cell} (L : Leaves h D h' D') (e : ∀ o, h.get? a = some o → h'.get? a = some o) : CellAt h D a c → CellAt h' D' a c := by
  cases c with
  | list _ xs => rintro ⟨vs, n, ho, hz, r⟩; exact ⟨vs, n, e _ ho, hz, r.leaves L⟩
  | dict _ es => rintro ⟨ds, n, ho, hz, hn, r⟩; exact ⟨ds, n, e _ ho, hz, hn, r.leaves L⟩

theorem Step.push (own : Addr → Prop) (h : Heap) (σ : View) (o : Obj) : Step own h σ (h.push o) σ := ⟨fun _ _ e _ _ => Heap.get?_push_of_some _ e, by rw [Heap.size_push]; solve_by_elim (maxDepth := 2) [Nat.le_of_lt, Nat.le_trans, Nat.lt_of_lt_of_le, Nat.lt_of_le_of_lt, Nat.le_succ_of_le, Nat.lt_succ_of_le, Nat.le_of_succ_le, Nat.le_of_lt_succ, Nat.not_lt.mp, Nat.not_le.mp, Nat.le_add_right, Nat.le_add_left, Nat.sub_le], fun _ h1 h2 => absurd h2 h1, fun _ _ _ e _ => .inl e⟩

/-- a new object that the view does not hold -/
theorem Good.push (G : Good C σ ls s) (o : Obj) (tk : Nat) : Good C σ ls { s with heap := s.heap.push o, toks := tk } := by
  have S := Step.push C.own s.heap σ o
  exact G.change S (fun b _ o e => Heap.get?_push_of_some _ e) (fun a h => G.fresh a (.inl h)) G.apart
    fun a c e => (G.sim a c e).leaves (G.leaves S) fun o' e' => Heap.get?_push_of_some _ e'

theorem Step.setCell {own : Addr → Prop} {h h' : Heap} {σ : View} {a : Addr} {c c' : Cell} (e : σ a = some c) (hr : c.ro = false) (hs : Heap.SameBut a h h') : Step own h σ h' (σ.upd a c') :=
  ⟨fun b _ eb hb _ => (hs.2 b (by rintro rfl; exact hb ⟨c, e, hr⟩)).trans eb, Nat.le_of_eq hs.1.symm, fun b h1 h2 => by
    by_cases q : b = a
    · rw [q, e] at h2; exact nn (Eq.symm h2)
    · rw [upd_ne q] at h1; exact absurd h2 h1, fun b d _ eb hd => .inl (by
      have : b ≠ a := by rintro rfl; cases Eq.trans (Eq.symm e) eb; exact ff (Eq.trans (Eq.symm hr) hd)
      exact (upd_ne this) ▸ eb)⟩

/-- an object that the view holds changes -/
theorem Good.setCell {a : Addr} {c c' : Cell} {h' : Heap} {tk : Nat} (G : Good C σ ls s) (e : σ a = some c) (hr : c.ro = false) (hs : Heap.SameBut a s.heap h')
    (hc : CellAt h' (C.D (σ.upd a c')) a c') : Good C (σ.upd a c') ls { s with heap := h', toks := tk } := by
  have S := Step.setCell (own := C.own) (c' := c') e hr hs
  have na : ∀ b, C.own b ∨ C.B b → b ≠ a := fun b hb => by rintro rfl; have := G.apart b hb; rw [e] at this; exact nn (Eq.symm this)
  refine G.change S (fun b hb o eb => (hs.2 b (na b (.inl hb))).trans eb) (fun b h => ?_) (fun b h => ?_) fun b c₁ eb => ?_
  · by_cases q : b = a
    · exact q ▸ (G.fresh a (.inl (not_some e)))
    · rw [upd_ne q] at h; exact G.fresh b (.inl h)
  · rw [upd_ne (na b h)]; exact G.apart b h
  · by_cases q : b = a
    · cases q; rw [upd_self] at eb; cases eb; exact hc
    · rw [upd_ne q] at eb
      exact (G.sim b c₁ eb).leaves (G.leaves S) fun o eo => (hs.2 b q).trans eo

theorem D_upd {a : Addr} {c c' : Cell} (e : σ a = some c) : C.D (σ.upd a c') = C.D σ := by
  funext b
  simp only [Cx.D]
  by_cases q : b = a
  · subst q; simp [e]
  · rw [upd_ne q]

/-- for a while an object is only read -/
theorem CellAt.lock {h : Heap} {D : Addr → Prop} {a : Addr} {c : Cell} : CellAt h D a c.lock ↔ CellAt h D a c := by cases c <;> exact Iff.rfl
/-- the view lets an object go: it is read as it is from now on -/
theorem Good.del {a : Addr} (G : Good C σ ls s) : Good C (σ.del a) ls s := by
  have sub : ∀ b, σ.del a b ≠ none → σ b ≠ none := fun b h => by
    by_cases q : b = a
    · subst q; simp at h
    · rwa [del_ne q] at h
  have S : Step C.own s.heap σ s.heap (σ.del a) := ⟨fun _ _ e _ _ => e, Nat.le_refl _, fun b h1 h2 => absurd h2 (sub b h1), fun b c _ e _ => by
    by_cases q : b = a
    · subst q; exact .inr (by simp)
    · exact .inl (((del_ne q) ▸ e))⟩
  have := G.change (tk := s.toks) S (fun _ _ _ e => e) (fun b h => G.fresh b (.inl (sub b h))) (fun b h => by
    cases e : σ.del a b with
    | none => rfl
    | some c => exact absurd (G.apart b h) (sub b (not_some e))) fun b c e => by
      have hb : b ≠ a := by rintro rfl; simp at e
      replace e := (del_ne hb) ▸ e
      exact (G.sim b c e).leaves (G.leaves S) fun _ x => x
  exact this
theorem Step.del (own : Addr → Prop) (h : Heap) (σ : View) (a : Addr) : Step own h σ h (σ.del a) := ⟨fun _ _ e _ _ => e, Nat.le_refl _, fun b h1 h2 => by
  by_cases q : b = a
  · subst q; simp at h1
  · rw [del_ne q] at h1; exact absurd h2 h1, fun b c _ e _ => by
    by_cases q : b = a
    · subst q; exact .inr (by simp)
    · exact .inl (by rw [del_ne q]; exact e)⟩
theorem not_D_del {a : Addr} (G : Good C σ ls s) {c : Cell} (e : σ a = some c) : ¬ C.D (σ.del a) a := by
  rintro (h | h)
  · simp at h
  · have := G.apart a h; rw [e] at this; exact nn (Eq.symm this)
theorem Good.freezeL {a : Addr} {xs : List V} (G : Good C σ ls s) {ro : Bool} (e : σ a = some (.list ro xs)) : Real s.heap (C.D (σ.del a)) (.ref a) (.lst xs) := by
  obtain ⟨vs, n, ho, hz, r⟩ := G.sim a _ e
  exact .lst ho hz (not_D_del G e) (r.leaves (G.leaves (Step.del _ _ _ _)))
theorem Wd.Ok.two {W : Wd} (h : W.Ok) : 2 < W.s₀.heap.objs.size := by
  refine Exists.elim h.top.nolimit ?_; rintro mc hq0
  exact hq0.1.lt
theorem Good.freezeD {a : Addr} {es : List (Int × V)} (hW : C.W.Ok) (G : Good C σ ls s) {ro : Bool} (e : σ a = some (.dict ro es)) : Real s.heap (C.D (σ.del a)) (.ref a) (.dct es) := by
  obtain ⟨vs, n, ho, hz, hn, r⟩ := G.sim a _ e
  exact .dct ho hz hn (Nat.lt_of_lt_of_le hW.two (G.fresh a (.inl (not_some e)))) (not_D_del G e) (r.leaves (G.leaves (Step.del _ _ _ _)))
end
end Mine
end

section

open PySem PyProof.Rows
namespace Mine

/-- what the walks need of the context -/
structure Rm (C : Cx) : Prop where
  ok : C.W.Ok
  hh : C.A.handled = none
  units : C.A.units + 200 < cLine

/-- a tree gives a datum, the view as it was -/
noncomputable def Gives (C : Cx) (ls : Ls) (t : Sem Value) (d : V) (σ : View) (s : Shared) : Prop := TrE C ls t (fun v σ' s' => Real s'.heap (C.D σ') v d ∧ σ' = σ) σ s

section
variable {C : Cx} {ls : Ls} {σ : View} {s : Shared}

theorem Gives.then {t : Sem Value} {d : V} {Q : Post} (h : Gives C ls t d σ s) (q : Q d σ) : TrE C ls t (RV C Q) σ s :=
  TrE.mono h fun v σ' s' _ _ hx => by obtain ⟨r, e⟩ := hx; exact ⟨d, r, (e ▸ q)⟩
theorem Gives.quiet {t : Sem Value} {d : V} (G : Good C σ ls s) (h : wpAny (model C.W.prog C.W.w) C.A t (fun v s' => (∃ tk, s' = { s with toks := tk }) ∧ Real s.heap (C.D σ) v d) (fun _ _ => False) s) : Gives C ls t d σ s :=
  TrE.quiet G (wpAny_mono h (fun v s' hx => by obtain ⟨⟨tk, e⟩, r⟩ := hx; exact ⟨⟨tk, e⟩, (e ▸ r), rfl⟩) fun _ _ x => x)
/-- a new object, read as it is -/
theorem Gives.new {t : Sem Value} {d : V} {o : Obj} (G : Good C σ ls s) (hd : Real (s.heap.push o) (C.D σ) (.ref s.heap.objs.size) d)
    (h : wpAny (model C.W.prog C.W.w) C.A t (fun v s' => v = .ref s.heap.objs.size ∧ ∃ tk, s' = { s with heap := s.heap.push o, toks := tk }) (fun _ _ => False) s) : Gives C ls t d σ s :=
  wpAny_mono h (fun v s' hx => by obtain ⟨ev, tk, e⟩ := hx; exact ⟨σ, by rw [e]; exact G.push o tk, by rw [e]; exact Step.push _ _ _ _, by rw [e, ev]; exact hd, rfl⟩) fun _ _ x => x
/-- the heap grows by what nobody reads -/
theorem Gives.grown {t : Sem Value} {d : V} (G : Good C σ ls s)
    (h : wpAny (model C.W.prog C.W.w) C.A t (fun v s' => (∃ h' tk, s' = { s with heap := h', toks := tk } ∧ (∀ b o, s.heap.get? b = some o → h'.get? b = some o)) ∧ ∀ h' : Heap, (∀ b o, s.heap.get? b = some o → h'.get? b = some o) → s'.heap = h' → Real h' (C.D σ) v d) (fun _ _ => False) s) : Gives C ls t d σ s := by
  refine wpAny_mono (wpAny_size h) (fun v s' hh => ?_) fun _ _ x => x.2
  obtain ⟨hz, ⟨h', tk, e, k⟩, r⟩ := hh
  have S : Step C.own s.heap σ h' σ := ⟨fun b o eb _ _ => k b o eb, by rw [e] at hz; exact hz, fun _ h1 h2 => absurd h2 h1, fun _ _ _ e _ => .inl e⟩
  refine ⟨σ, ?_, by rw [e]; exact S, by rw [e]; exact r h' k ((congrArg _ e)), rfl⟩
  simp only [e]
  exact G.change S (fun b _ o eb => k b o eb) (fun a ha => G.fresh a (.inl ha)) G.apart fun a c ea => (G.sim a c ea).leaves (G.leaves S) fun o eo => k a o eo

theorem Real.push {v : Value} {x : V} (G : Good C σ ls s) (o : Obj) (r : Real s.heap (C.D σ) v x) : Real (s.heap.push o) (C.D σ) v x := r.leaves (G.leaves (Step.push _ _ _ _))
theorem Reals.push {v : List Value} {x : List V} (G : Good C σ ls s) (o : Obj) (r : Reals s.heap (C.D σ) v x) : Reals (s.heap.push o) (C.D σ) v x := r.leaves (G.leaves (Step.push _ _ _ _))
theorem new_lst {vs : Array Value} {xs : List V} (G : Good C σ ls s) (hz : vs.size ≤ 2 ^ 24) (r : Reals s.heap (C.D σ) vs.toList xs) : Real (s.heap.push (listObj vs 0)) (C.D σ) (.ref s.heap.objs.size) (.lst xs) :=
  .lst (Heap.get?_push_size _ rfl) hz G.newAddr (r.push G _)
theorem new_tup {vs : Array Value} {xs : List V} (G : Good C σ ls s) (hz : vs.size ≤ 2 ^ 24) (r : Reals s.heap (C.D σ) vs.toList xs) : Real (s.heap.push (tupObj vs 0)) (C.D σ) (.ref s.heap.objs.size) (.tup xs) :=
  .tup (Heap.get?_push_size _ rfl) hz G.newAddr (r.push G _)

/-! what stands behind data -/
inductive LstI (h : Heap) (D : Addr → Prop) (v : Value) (xs : List V) : Prop
  | mk (a : Addr) (vs : Array Value) (n : Nat) : v = .ref a → h.get? a = some (listObj vs n) → vs.size ≤ 2 ^ 24 → Reals h D vs.toList xs → LstI h D v xs
inductive SeqI (h : Heap) (D : Addr → Prop) (v : Value) (xs : List V) : Prop
  | mk (a : Addr) (vs : Array Value) (n : Nat) : v = .ref a → (h.get? a = some (listObj vs n) ∨ h.get? a = some (tupObj vs n)) → vs.size ≤ 2 ^ 24 → Reals h D vs.toList xs → SeqI h D v xs
inductive DicI (h : Heap) (D : Addr → Prop) (v : Value) (xs : List (Int × V)) : Prop
  | mk (a : Addr) (es : Array DictEntry) (n : Nat) : v = .ref a → h.get? a = some (dictObj es n) → es.size ≤ 2 ^ 24 → (xs.map (·.1)).Nodup → 2 < a → RealD h D es.toList xs → DicI h D v xs
theorem lstOf_ref {a : Addr} {xs : List V} (h : lstOf σ (.ref a) = some xs) : ∃ ro, σ a = some (.list ro xs) := by
  have h : (match σ a with | some (.list _ xs) => some xs | _ => none) = some xs := h
  cases e : σ a with
  | none => rw [e] at h; exact nn h
  | some c =>
    rw [e] at h
    cases c with
    | list ro ys => exact ⟨ro, ((Option.some.inj h) ▸ rfl)⟩
    | dict _ _ => exact nn h
theorem dicOf_ref {a : Addr} {xs : List (Int × V)} (h : dicOf σ (.ref a) = some xs) : ∃ ro, σ a = some (.dict ro xs) := by
  have h : (match σ a with | some (.dict _ xs) => some xs | _ => none) = some xs := h
  cases e : σ a with
  | none => rw [e] at h; exact nn h
  | some c =>
    rw [e] at h
    cases c with
    | dict ro ys => exact ⟨ro, ((Option.some.inj h) ▸ rfl)⟩
    | list _ _ => exact nn h
theorem lst_at {v : Value} {x : V} {xs : List V} (G : Good C σ ls s) (r : Real s.heap (C.D σ) v x) (h : lstOf σ x = some xs) :
    LstI s.heap (C.D σ) v xs := by
  cases x with
  | lst ys => obtain ⟨a, vs, n, e, ho, hz, _, rs⟩ := r.lst_i; exact ⟨a, vs, n, e, ho, hz, Option.some.inj h ▸ rs⟩
  | ref a =>
    refine Exists.elim (lstOf_ref h) ?_; rintro ro e
    obtain ⟨vs, n, ho, hz, rs⟩ := G.sim a _ e
    exact ⟨a, vs, n, r.ref_i, ho, hz, rs⟩
  | _ => exact nn h
theorem seq_at {v : Value} {x : V} {xs : List V} (G : Good C σ ls s) (r : Real s.heap (C.D σ) v x) (h : seqOf σ x = some xs) :
    SeqI s.heap (C.D σ) v xs := by
  cases x with
  | tup ys => obtain ⟨a, vs, n, e, ho, hz, _, rs⟩ := r.tup_i; exact ⟨a, vs, n, e, .inr ho, hz, Option.some.inj h ▸ rs⟩
  | _ => obtain ⟨a, vs, n, e, ho, hz, rs⟩ := lst_at G r h; exact ⟨a, vs, n, e, .inl ho, hz, rs⟩
theorem dic_at {v : Value} {x : V} {xs : List (Int × V)} (hW : C.W.Ok) (G : Good C σ ls s) (r : Real s.heap (C.D σ) v x) (h : dicOf σ x = some xs) :
    DicI s.heap (C.D σ) v xs := by
  cases x with
  | dct ys =>
    obtain ⟨a, vs, n, e, ho, hz, hn, h2, _, rs⟩ := r.dct_i
    obtain rfl := Option.some.inj h
    exact ⟨a, vs, n, e, ho, hz, hn, h2, rs⟩
  | ref a =>
    refine Exists.elim (dicOf_ref h) ?_; rintro ro e
    obtain ⟨vs, n, ho, hz, hn, rs⟩ := G.sim a _ e
    exact ⟨a, vs, n, r.ref_i, ho, hz, hn, Nat.lt_of_lt_of_le hW.two (G.fresh a (.inl (not_some e))), rs⟩
  | _ => exact nn h

theorem isList_of {h : Heap} {a : Addr} {vs : Array Value} {n : Nat} (e : h.get? a = some (listObj vs n)) : h.IsList a vs := ⟨_, e, rfl, n, rfl⟩
theorem isTup_of {h : Heap} {a : Addr} {vs : Array Value} {n : Nat} (e : h.get? a = some (tupObj vs n)) : IsTup h a vs := ⟨_, e, rfl, n, rfl⟩

/-- the keys and the values of a dict, as the library says them -/
theorem RealD.pairs {prog : Program} {w : World} {h : Heap} {D : Addr → Prop} {es : List DictEntry} {xs : List (Int × V)} (r : RealD h D es xs) :
    ∃ kvs : List (Int × Value), Pairs (intKind prog w) es kvs ∧ kvs.map (·.1) = xs.map (·.1) ∧ Reals h D (kvs.map (·.2)) (xs.map (·.2)) ∧ ∀ e ∈ es, ∃ k, (intKind prog w).is k e.key = true ∧ e.hash = (intKind prog w).hash k := by
  induction es generalizing xs with
  | nil => exact r.nil_i ▸ (⟨[], .nil, rfl, .nil, fun _ he => (List.not_mem_nil he).elim⟩)
  | cons e es ih =>
    obtain ⟨k, t, x, xs, rfl, hk, hh, hv, r'⟩ := r.cons_i
    obtain ⟨kvs, hq0⟩ := ih r'
    have hi : (intKind prog w).is k e.key = true := hk ▸ intKind_is prog w k t
    refine ⟨(k, e.val) :: kvs, .cons hi rfl hq0.1, congrArg (k :: ·) hq0.2.1, .cons hv hq0.2.2.1, fun e' he => ?_⟩
    rcases List.mem_cons.mp he with rfl | he
    · exact ⟨k, hi, hh⟩
    · exact hq0.2.2.2 e' he
theorem dictOf_of {prog : Program} {w : World} {h : Heap} {D : Addr → Prop} {a : Addr} {es : Array DictEntry} {n : Nat} {xs : List (Int × V)} (ho : h.get? a = some (dictObj es n)) (hn : (xs.map (·.1)).Nodup)
    (r : RealD h D es.toList xs) : ∃ kvs : List (Int × Value), h.DictOf (intKind prog w) a kvs ∧ kvs.map (·.1) = xs.map (·.1) ∧ Reals h D (kvs.map (·.2)) (xs.map (·.2)) := by
  refine Exists.elim (RealD.pairs (prog := prog) (w := w) r) ?_; rintro kvs hq0
  exact ⟨kvs, ⟨_, es, n, ho, ⟨rfl, rfl, rfl⟩, rfl, fun e he => hq0.2.2.2 e (Array.mem_toList_iff.mpr he), hq0.1, (hq0.2.1 ▸ hn)⟩, hq0.2.1, hq0.2.2.1⟩
theorem valueAt_of {h : Heap} {D : Addr → Prop} {kvs : List (Int × Value)} {xs : List (Int × V)} (e : kvs.map (·.1) = xs.map (·.1)) (r : Reals h D (kvs.map (·.2)) (xs.map (·.2))) (k : Int) :
    (valueAt kvs k = none ∧ lookD k xs = none) ∨ ∃ v x, valueAt kvs k = some v ∧ lookD k xs = some x ∧ Real h D v x := by
  induction kvs generalizing xs with
  | nil =>
    cases xs with
    | nil => exact .inl ⟨rfl, rfl⟩
    | cons _ _ => exact nomatch e
  | cons a kvs ih =>
    cases xs with
    | nil => exact nomatch e
    | cons b xs =>
      skip
      obtain ⟨j', x⟩ := b
      obtain ⟨e1, e2⟩ := List.cons.inj e
      have e1 : a.1 = j' := e1
      subst e1
      obtain ⟨v', ws, e3, r1, r2⟩ := r.cons_i
      obtain ⟨rfl, rfl⟩ := List.cons.inj e3
      by_cases q : a.1 = k
      · exact .inr ⟨a.2, x, by simp [valueAt, q], by simp [lookD, q], r1⟩
      · have := ih e2 r2
        simpa [valueAt, lookD, q] using this
end
end Mine
end

section

open PySem PyProof.Rows
namespace Mine
section
variable {C : Cx} {ls : Ls} {σ : View} {s : Shared} {a b : Value} {x y d : V}

/-! arithmetic -/
theorem mulFits_ok {i j : Int} (h : mulFits i j = true) : IntMulOk i j := by
  unfold mulFits at h; skip; intro hc; rw [hc] at h; exact ff h

theorem strOk_append {x y : Str} (hx : PyData.strOk x = true) (hy : PyData.strOk y = true) : PyData.strOk (x ++ y) = true := by
  unfold PyData.strOk at *
  have e : (x ++ y).cps = x.cps ++ y.cps := Str.cps_append x y
  refine (Eq.symm e) ▸ ?_; refine (Eq.symm Array.all_append) ▸ ?_; refine (Eq.symm hx) ▸ ?_; refine (Eq.symm hy) ▸ ?_; rfl

theorem g_addL (G : Good C σ ls s) (ra : Real s.heap (C.D σ) a x) (rb : Real s.heap (C.D σ) b y) (h : addL σ x y = some d) : Gives C ls (binaryOp .Add a b) d σ s := by
  refine Exists.elim (Option.bind_eq_some_iff.mp h) ?_; rintro xs hq1
  obtain ⟨ys, hq0⟩ := Option.bind_eq_some_iff.mp hq1.2
  obtain ⟨hz, rfl⟩ := ite_some hq0.2
  obtain ⟨a', vs, n, rfl, ho, hzv, rs⟩ := lst_at G ra hq1.1
  obtain ⟨b', ws, m, rfl, hb, hzw, rw'⟩ := lst_at G rb hq0.1
  have hsz : vs.size + ws.size ≤ 2 ^ 24 := by
    have e1 : vs.size = xs.length := rs.length
    have e2 : ws.size = ys.length := rw'.length
    exact e1 ▸ e2 ▸ hz
  have r := Reals.append rs rw'
  rw [← Array.toList_append] at r
  exact Gives.new G (new_lst G (by rw [Array.size_append]; exact hsz) r) (P.add_list ho hb ⟨rfl, s.toks, rfl⟩ ((hsz)))
theorem g_addT (G : Good C σ ls s) {xs ys : List V} (ra : Real s.heap (C.D σ) a (.tup xs)) (rb : Real s.heap (C.D σ) b (.tup ys)) (hz : xs.length + ys.length ≤ big) : Gives C ls (binaryOp .Add a b) (.tup (xs ++ ys)) σ s := by
  obtain ⟨a', vs, n, rfl, ho, hzv, hd1, rs⟩ := ra.tup_i
  obtain ⟨b', ws, m, rfl, hb, hzw, hd2, rw'⟩ := rb.tup_i
  have hsz : vs.size + ws.size ≤ 2 ^ 24 := by
    have e1 : vs.size = xs.length := rs.length
    have e2 : ws.size = ys.length := rw'.length
    exact e1 ▸ e2 ▸ hz
  have r := Reals.append rs rw'
  by_cases hv : vs.isEmpty = true
  · obtain rfl : vs = #[] := Array.isEmpty_iff.mp hv
    have : xs = [] := List.length_eq_zero_iff.mp rs.length.symm
    subst this
    exact Gives.quiet G (concat_meets ⟨_, ho, rfl⟩ ⟨_, hb, rfl⟩ noFill_tuple_add seq_tuple_add F.slot_tuple_add F.entry_tuple_add (F.args_tuple_add_2 _ _) (tuple_addW0 a' b' #[] ws n m none none #[] #[] rfl) ⟨ho, hb, ⟨s.toks, rfl⟩, .tup hb hzw hd2 rw'⟩)
  · by_cases hw : ws.isEmpty = true
    · obtain rfl : ws = #[] := Array.isEmpty_iff.mp hw
      have : ys = [] := List.length_eq_zero_iff.mp rw'.length.symm
      subst this
      exact Gives.quiet G (concat_meets ⟨_, ho, rfl⟩ ⟨_, hb, rfl⟩ noFill_tuple_add seq_tuple_add F.slot_tuple_add F.entry_tuple_add (F.args_tuple_add_2 _ _) (tuple_addW1 a' b' vs #[] n m none none #[] #[] hv rfl) ⟨ho, hb, ⟨s.toks, rfl⟩, by rw [List.append_nil]; exact .tup ho hzv hd1 rs⟩)
    · rw [← Array.toList_append] at r
      exact Gives.new G (new_tup G (by rw [Array.size_append]; exact hsz) r) (P.add_tuple ho hb hv hw ⟨rfl, s.toks, rfl⟩ ((hsz)))
theorem g_add (G : Good C σ ls s) (ra : Real s.heap (C.D σ) a x) (rb : Real s.heap (C.D σ) b y) (h : addV σ x y = some d) : Gives C ls (binaryOp .Add a b) d σ s := by
  cases x with
  | int i =>
    refine Exists.elim (int1_some h) fun j hx => ?_; obtain ⟨rfl, h⟩ := hx
    obtain rfl := Option.some.inj h
    obtain ⟨t, rfl⟩ := ra.int_i
    obtain ⟨u, rfl⟩ := rb.int_i
    exact Gives.quiet G (wpAny_add_int ⟨⟨_, rfl⟩, .int _ _⟩)
  | str i =>
    refine Exists.elim (str1_some h) fun j hx => ?_; obtain ⟨rfl, h⟩ := hx
    obtain ⟨hz, rfl⟩ := ite_some h
    obtain ⟨t, rfl, hq1⟩ := ra.str_i
    refine Exists.elim rb.str_i fun u hx => ?_; obtain ⟨rfl, hq0⟩ := hx
    refine Gives.quiet G (SB.add (fun t' k => ⟨⟨k, rfl⟩, .str _ _ (strOk_append hq1.1 hq0.1) ?_⟩) ((hz)))
    simp only [Str.cps_append, Array.size_append]; exact hz
  | tup xs =>
    refine Exists.elim (tup1_some h) fun ys hx => ?_; obtain ⟨rfl, h⟩ := hx
    obtain ⟨hz, rfl⟩ := ite_some h
    exact g_addT G ra rb hz
  | _ => exact g_addL G ra rb h

theorem g_sub (G : Good C σ ls s) {i j : Int} (ra : Real s.heap (C.D σ) a (.int i)) (rb : Real s.heap (C.D σ) b (.int j)) : Gives C ls (binaryOp .Sub a b) (.int (i - j)) σ s := by
  refine Exists.elim ra.int_i fun _ hx => ?_; obtain rfl := hx; obtain ⟨_, rfl⟩ := rb.int_i; exact Gives.quiet G (sub_int ⟨⟨_, rfl⟩, .int _ _⟩)
theorem g_div (G : Good C σ ls s) {i j : Int} (ra : Real s.heap (C.D σ) a (.int i)) (rb : Real s.heap (C.D σ) b (.int j)) (h0 : 0 < j) (h1 : j < 2 ^ 29) : Gives C ls (binaryOp .FloorDiv a b) (.int (i / j)) σ s := by
  cases ra; cases rb
  have e : i.fdiv j = i / j := Int.fdiv_eq_ediv_of_nonneg _ (by (first | lia | omega))
  refine Gives.quiet G (AutoIntOps.floordiv_1 (by simp; (first | lia | omega)) (by rw [PyProof.noPylong_small (by (first | lia | omega))]; exact Bool.false_ne_true) ?_)
  exact ⟨⟨_, rfl⟩, (e ▸ (.int _ _))⟩
theorem g_mod (G : Good C σ ls s) {i j : Int} (ra : Real s.heap (C.D σ) a (.int i)) (rb : Real s.heap (C.D σ) b (.int j)) (h0 : 0 < j) : Gives C ls (binaryOp .Mod a b) (.int (i % j)) σ s := by
  refine Exists.elim ra.int_i fun _ hx => ?_; obtain rfl := hx; obtain ⟨_, rfl⟩ := rb.int_i
  have e : i.fmod j = i % j := Int.fmod_eq_emod_of_nonneg _ (by solve_by_elim (maxDepth := 3) [Int.le_of_lt, Int.le_trans, Int.lt_of_lt_of_le, Int.lt_of_le_of_lt, i1, i2, i5, i6])
  refine Gives.quiet G (mod_int' (by lia) ?_)
  exact ⟨⟨_, rfl⟩, (e ▸ (.int _ _))⟩
theorem g_pow (G : Good C σ ls s) {i j : Int} (ra : Real s.heap (C.D σ) a (.int i)) (rb : Real s.heap (C.D σ) b (.int j)) (h0 : 1 < i) (h1 : i ≤ 10) (h2 : 0 < j) (h3 : j ≤ 100) : Gives C ls (binaryOp .Pow a b) (.int (i ^ j.toNat)) σ s := by
  refine Exists.elim ra.int_i fun _ hx => ?_; obtain rfl := hx; obtain ⟨_, rfl⟩ := rb.int_i
  have hb : Builtin.Int.intBits i ≤ 64 := intBits_le_64 (by lia) (by lia)
  refine Gives.quiet G (AutoIntOps.pow_4 (by solve_by_elim (maxDepth := 3) [Int.le_of_lt, Int.le_trans, Int.lt_of_lt_of_le, Int.lt_of_le_of_lt, i1, i2, i5, i6]) (by simp; lia) (by simp; lia) (by simp; lia) ?_ ?_)
  · delta Builtin.Int.intTooBig bitsLine
    have : ((Builtin.Int.intBits i : Nat) : Int) * j ≤ 64 * 100 := by
      have h5 : ((Builtin.Int.intBits i : Nat) : Int) ≤ 64 := by lia
      exact Int.mul_le_mul h5 h3 (by solve_by_elim (maxDepth := 3) [Int.le_of_lt, Int.le_trans, Int.lt_of_lt_of_le, Int.lt_of_le_of_lt, i1, i2, i5, i6]) (by solve_by_elim (maxDepth := 2) [i1, i2, i3, i4, i5, i6, i7, i8])
    skip; lia
  · exact ⟨⟨_, rfl⟩, .int _ _⟩
theorem g_neg (G : Good C σ ls s) {i : Int} (ra : Real s.heap (C.D σ) a (.int i)) : Gives C ls (unaryOp .USub a) (.int (-i)) σ s := by
  refine Exists.elim ra.int_i fun _ hx => ?_; obtain rfl := hx; exact Gives.quiet G (neg_int ⟨⟨_, rfl⟩, .int _ _⟩)

theorem strOk_rep {x : Str} (hx : PyData.strOk x = true) (n : Nat) : PyData.strOk ⟨(List.replicate n x.cps.toList).flatten.toArray⟩ = true := by
  unfold PyData.strOk at *
  simp only [List.all_toArray, List.all_flatten, List.all_replicate] at *
  simp at *
  exact .inr hx

/-! comparisons -/
theorem is_fact {r : Bool} (ra : Real s.heap (C.D σ) a x) (rb : Real s.heap (C.D σ) b y) (h : sameSingle x y = some r) : plainIs a b = true ∧ (a == b) = r := by
  refine Exists.elim (Option.bind_eq_some_iff.mp h) fun z hx => ?_; obtain ⟨hz, h⟩ := hx
  cases rb with
  | none =>
    cases hz
    cases ra with
    | _ => cases h; exact ⟨rfl, rfl⟩
  | bool q =>
    cases hz
    cases ra with
    | bool p => cases h; cases p <;> cases q <;> exact ⟨rfl, rfl⟩
    | _ => cases h; exact ⟨rfl, rfl⟩
  | _ => exact nn hz
theorem g_is (G : Good C σ ls s) {r : Bool} (ra : Real s.heap (C.D σ) a x) (rb : Real s.heap (C.D σ) b y) (h : sameSingle x y = some r) : Gives C ls (compareOp .Is a b) (.bool r) σ s :=
  Gives.quiet G (wpAny_is_plain (is_fact ra rb h).1 ⟨⟨s.toks, rfl⟩, (is_fact ra rb h).2 ▸ .bool _⟩)
theorem g_isNot (G : Good C σ ls s) {r : Bool} (ra : Real s.heap (C.D σ) a x) (rb : Real s.heap (C.D σ) b y) (h : sameSingle x y = some r) : Gives C ls (compareOp .IsNot a b) (.bool (!r)) σ s :=
  Gives.quiet G (wpAny_isNot_plain (is_fact ra rb h).1 ⟨⟨s.toks, rfl⟩, (is_fact ra rb h).2 ▸ .bool _⟩)
end
end Mine
end

section

open PySem PyProof.Rows
namespace Mine
section
variable {C : Cx} {ls : Ls} {σ : View} {s : Shared} {a b : Value} {x y d : V}

/-! equality of data -/
theorem mapM_cons_some {α β : Type} {f : α → Option β} {x : α} {xs : List α} {r : List β} (h : (x :: xs).mapM f = some r) : ∃ y ys, f x = some y ∧ xs.mapM f = some ys ∧ r = y :: ys := by
  rw [List.mapM_cons] at h
  refine Exists.elim (Option.bind_eq_some_iff.mp h) ?_; rintro y hq1
  obtain ⟨ys, hq0⟩ := Option.bind_eq_some_iff.mp hq1.2
  exact ⟨y, ys, hq1.1, hq0.1, (Option.some.inj hq0.2).symm⟩
inductive RdI (h : Heap) (v : Value) (d : PyData) (n : Nat) : Prop
  | mk (as : List Addr) : Reads h v d as → d.canLay0 = true → d.depth ≤ n → RdI h v d n
inductive RdsI (h : Heap) (vs : List Value) (ds : List PyData) (n : Nat) : Prop
  | mk (as : List Addr) : ReadsAll h vs ds as → PyData.canLayAll0 ds = true → PyData.depthAll ds ≤ n → RdsI h vs ds n
theorem leaf_reads {n : Nat} {v : Value} {d : PyData} (r : Real s.heap (C.D σ) v x) (h : leafD x = some d) : RdI s.heap v d n := by
  cases x with
  | none => obtain rfl := Option.some.inj h; obtain rfl := r.none_i; exact ⟨_, .none, rfl, Nat.zero_le _⟩
  | bool b => obtain rfl := Option.some.inj h; obtain rfl := r.bool_i; exact ⟨_, .bool _, rfl, Nat.zero_le _⟩
  | int i => obtain rfl := Option.some.inj h; refine Exists.elim r.int_i fun t hx => ?_; obtain rfl := hx; exact ⟨_, .int _ _, rfl, Nat.zero_le _⟩
  | str z => obtain rfl := Option.some.inj h; refine Exists.elim r.str_i fun t hx => ?_; obtain ⟨rfl, hq0⟩ := hx; exact ⟨_, .str _ _, hq0.1, Nat.zero_le _⟩
  | _ => exact nn h
theorem all_reads {n : Nat} (ih : ∀ {v : Value} {x : V} {d : PyData}, Real s.heap (C.D σ) v x → x.toD σ n = some d → RdI s.heap v d n) {vs : List Value} {xs : List V} {ds : List PyData} (r : Reals s.heap (C.D σ) vs xs) (h : xs.mapM (V.toD σ n) = some ds) : RdsI s.heap vs ds n := by
  induction xs generalizing vs ds with
  | nil => obtain rfl := r.nil_i; obtain rfl := Option.some.inj h; exact ⟨_, .nil, rfl, Nat.zero_le _⟩
  | cons x xs ih2 =>
    obtain ⟨v, ws, rfl, r1, r2⟩ := r.cons_i
    refine Exists.elim (mapM_cons_some h) fun y hx => ?_; obtain ⟨ys, h1, h2, rfl⟩ := hx
    obtain ⟨as, q1, q2, q3⟩ := ih r1 h1
    obtain ⟨bs, p1, p2, p3⟩ := ih2 r2 h2
    exact ⟨_, .cons q1 p1, Bool.and_eq_true_iff.mpr ⟨q2, p2⟩, Nat.max_le.mpr ⟨q3, p3⟩⟩
theorem toD_reads (G : Good C σ ls s) (n : Nat) {v : Value} {x : V} {d : PyData} (r : Real s.heap (C.D σ) v x) (h : x.toD σ n = some d) : RdI s.heap v d n := by
  induction n generalizing v x d with
  | zero => exact leaf_reads r h
  | succ n ih =>
    have lst : ∀ {xs : List V}, lstOf σ x = some xs → (xs.mapM (V.toD σ n)).map PyData.list = some d → RdI s.heap v d (n + 1) := by
      intro xs hx h
      refine Exists.elim (Option.map_eq_some_iff.mp h) fun ds hx => ?_; obtain ⟨h1, rfl⟩ := hx
      obtain ⟨l, vs, m, rfl, ho, _, rs⟩ := lst_at G r hx
      obtain ⟨as, q1, q2, q3⟩ := all_reads ih rs h1
      exact ⟨_, .list ho rfl rfl q1, q2, Nat.succ_le_succ q3⟩
    cases x with
    | tup xs =>
      obtain ⟨ds, h1, rfl⟩ := Option.map_eq_some_iff.mp h
      obtain ⟨l, vs, m, rfl, ho, _, _, rs⟩ := r.tup_i
      obtain ⟨as, q1, q2, q3⟩ := all_reads ih rs h1
      exact ⟨_, .tuple ho rfl rfl q1, q2, Nat.succ_le_succ q3⟩
    | lst xs => exact lst rfl h
    | ref a => obtain ⟨xs, hq0⟩ := Option.bind_eq_some_iff.mp h; exact lst hq0.1 hq0.2
    | _ => exact leaf_reads r h

theorem eqD_at (R : Rm C) (G : Good C σ ls s) {r : Bool} {v w : Value} (rv : Real s.heap (C.D σ) v x) (rw' : Real s.heap (C.D σ) w y) (h : eqD σ x y = some r) : SeqAt.EqAt C.A.in1 s v w r := by
  refine Exists.elim (Option.bind_eq_some_iff.mp h) ?_; rintro p hq0
  obtain ⟨q, hq, rfl⟩ := Option.map_eq_some_iff.mp hq0.2
  obtain ⟨as, h1, h2, h3⟩ := toD_reads G 20 rv hq0.1
  obtain ⟨bs, k1, k2, k3⟩ := toD_reads G 20 rw' hq
  refine SeqAt.eqAt_reads p q C.A.in1 s v w as bs h1 k1 h2 k2 ?_
  have := R.units
  have : min p.depth q.depth ≤ 20 := Nat.le_trans (Nat.min_le_left _ _) h3
  show C.A.units + 1 + _ < _; (first | lia | omega)

theorem eqAll_hits (R : Rm C) (G : Good C σ ls s) {kb : List (Int × Value)} {yb : List (Int × V)} (e2 : kb.map (·.1) = yb.map (·.1)) (r2 : Reals s.heap (C.D σ) (kb.map (·.2)) (yb.map (·.2)))
    {ka : List (Int × Value)} {xa : List (Int × V)} {r : Bool} (e : ka.map (·.1) = xa.map (·.1)) (rr : Reals s.heap (C.D σ) (ka.map (·.2)) (xa.map (·.2))) (h : eqAll σ yb xa = some r) : PySem.W.KeqHits C.A.in1 s kb ka r := by
  induction xa generalizing ka r with
  | nil =>
    obtain rfl := List.map_eq_nil_iff.mp e
    obtain rfl := Option.some.inj h
    exact .nil
  | cons b xa ih =>
    cases ka with
    | nil => exact (by cases e)
    | cons a ka =>
      skip
      obtain ⟨k', x⟩ := b
      obtain ⟨e1, e4⟩ := List.cons.inj e
      have e1 : a.1 = k' := e1
      subst e1
      obtain ⟨v', ws, e3, r1, r3⟩ := rr.cons_i
      obtain ⟨rfl, rfl⟩ := List.cons.inj e3
      have h : (match lookD a.1 yb with | none => some false | some w => (eqD σ x w).bind fun e => (eqAll σ yb xa).map fun t => e && t) = some r := h
      rcases valueAt_of e2 r2 a.1 with ⟨h1, h1'⟩ | ⟨w, y, h1, h1', hr⟩
      · simp only [h1'] at h; obtain rfl := Option.some.inj h; exact .miss h1
      · replace h := h1' ▸ h
        obtain ⟨q, hq0⟩ := Option.bind_eq_some_iff.mp h
        obtain ⟨t, ht, rfl⟩ := Option.map_eq_some_iff.mp hq0.2
        exact .hit h1 (eqD_at R G r1 hr hq0.1) (ih e4 r3 ht)

theorem sysMod {a : Addr} (h : 2 < a) : (a == sysModules) = false := by
  have : a ≠ sysModules := fun e => by rw [e] at h; exact absurd h (by decide)
  simpa using this

theorem g_eqB (R : Rm C) (G : Good C σ ls s) {r : Bool} (ra : Real s.heap (C.D σ) a x) (rb : Real s.heap (C.D σ) b y) (h : eqV σ x y = some r) :
    Gives C ls (compareOp .Eq a b) (.bool r) σ s ∧ Gives C ls (compareOp .NotEq a b) (.bool (!r)) σ s := by
  have hu := R.units
  have h : (match x.toD σ 20 with | some a => (y.toD σ 20).map (PyData.eqv a) | none => (dicOf σ x).bind fun a => (dicOf σ y).bind fun b => eqDict σ a b) = some r := h
  cases hp : x.toD σ 20 with
  | some p =>
    replace h := hp ▸ h
    obtain ⟨q, hq, rfl⟩ := Option.map_eq_some_iff.mp h
    obtain ⟨as, h1, h2, h3⟩ := toD_reads G 20 ra hp
    obtain ⟨bs, k1, k2, k3⟩ := toD_reads G 20 rb hq
    have hm : min p.depth q.depth ≤ 20 := Nat.le_trans (Nat.min_le_left _ _) h3
    exact ⟨Gives.quiet G (SeqAt.compareEq_reads h1 k1 h2 k2 (by (first | lia | omega)) ⟨⟨s.toks, rfl⟩, .bool _⟩), Gives.quiet G (SeqAt.compareNe_reads h1 k1 h2 k2 (by (first | lia | omega)) ⟨⟨s.toks, rfl⟩, .bool _⟩)⟩
  | none =>
    replace h := hp ▸ h
    refine Exists.elim (Option.bind_eq_some_iff.mp h) fun xa hx => ?_; obtain ⟨ha, h⟩ := hx
    refine Exists.elim (Option.bind_eq_some_iff.mp h) fun xb hx => ?_; obtain ⟨hb, h⟩ := hx
    obtain ⟨a', es, n, rfl, ho, hz, hn, h2, rs⟩ := dic_at R.ok G ra ha
    obtain ⟨b', es', n', rfl, ho', hz', hn', h2', rs'⟩ := dic_at R.ok G rb hb
    obtain ⟨ka, hq1⟩ := dictOf_of (prog := C.W.prog) (w := C.W.w) ho hn rs
    refine Exists.elim (dictOf_of (prog := C.W.prog) (w := C.W.w) ho' hn' rs') ?_; rintro kb hq0
    have la : ka.length = xa.length := by have := congrArg List.length hq1.2.1; simp only [List.length_map, List.length_map] at this; exact this
    have lb : kb.length = xb.length := by have := congrArg List.length hq0.2.1; simp only [List.length_map, List.length_map] at this; exact this
    have hits : ka.length = kb.length → PySem.W.KeqHits C.A.in1 s kb ka r := fun q => by
      rw [eqDict, if_pos (la ▸ lb ▸ q)] at h
      exact eqAll_hits R G hq0.2.1 hq0.2.2 hq1.2.1 hq1.2.2 h
    have e : (ka.length == kb.length && r) = r := by
      by_cases q : ka.length = kb.length
      · rw [q, beq_self_eq_true, Bool.true_and]
      · rw [eqDict, if_neg (la ▸ lb ▸ q)] at h
        rw [← Option.some.inj h, Bool.and_false]
    exact ⟨Gives.quiet G (PySem.W.keq_eq (sysMod h2) (sysMod h2') hq1.1 hq0.1 (by (first | lia | omega)) hits ⟨⟨s.toks, rfl⟩, ((Eq.symm e) ▸ (.bool _))⟩),
      Gives.quiet G (PySem.W.keq_ne (sysMod h2) (sysMod h2') hq1.1 hq0.1 (by (first | lia | omega)) hits ⟨⟨s.toks, rfl⟩, ((Eq.symm e) ▸ (.bool _))⟩)⟩

/-! order -/
theorem g_lt (G : Good C σ ls s) (ra : Real s.heap (C.D σ) a x) (rb : Real s.heap (C.D σ) b y) (h : ordV (fun a b => decide (a < b)) (fun a b => !strLe b a) [x, y] = some d) : Gives C ls (compareOp .Lt a b) d σ s := by
  cases x with
  | int i =>
    refine Exists.elim (int1_some h) fun j hx => ?_; obtain ⟨rfl, h⟩ := hx
    obtain rfl := Option.some.inj h
    obtain ⟨t, rfl⟩ := ra.int_i
    obtain ⟨u, rfl⟩ := rb.int_i
    exact Gives.quiet G (PyProof.Rows.lt_int ⟨⟨s.toks, rfl⟩, .bool _⟩)
  | str u =>
    refine Exists.elim (str1_some h) fun v hx => ?_; obtain ⟨rfl, h⟩ := hx
    obtain rfl := Option.some.inj h
    obtain ⟨t, rfl, hq1⟩ := ra.str_i
    refine Exists.elim rb.str_i fun w hx => ?_; obtain ⟨rfl, hq0⟩ := hx
    exact Gives.quiet G (PyProof.Rows.lt_str ⟨⟨s.toks, rfl⟩, by show Real _ _ _ (.bool (! (! _))); simp only [Bool.not_not]; exact .bool _⟩)
  | _ => exact nn h
theorem g_le (G : Good C σ ls s) (ra : Real s.heap (C.D σ) a x) (rb : Real s.heap (C.D σ) b y) (h : ordV (fun a b => decide (a ≤ b)) strLe [x, y] = some d) : Gives C ls (compareOp .LtE a b) d σ s := by
  cases x with
  | int i =>
    refine Exists.elim (int1_some h) fun j hx => ?_; obtain ⟨rfl, h⟩ := hx
    obtain rfl := Option.some.inj h
    obtain ⟨t, rfl⟩ := ra.int_i
    obtain ⟨u, rfl⟩ := rb.int_i
    exact Gives.quiet G (PyProof.Rows.le_int ⟨⟨s.toks, rfl⟩, .bool _⟩)
  | str u =>
    refine Exists.elim (str1_some h) fun v hx => ?_; obtain ⟨rfl, h⟩ := hx
    obtain rfl := Option.some.inj h
    obtain ⟨t, rfl, hq1⟩ := ra.str_i
    refine Exists.elim rb.str_i fun w hx => ?_; obtain ⟨rfl, hq0⟩ := hx
    exact Gives.quiet G (P.le_str ⟨⟨s.toks, rfl⟩, .bool _⟩)
  | _ => exact nn h
theorem g_gt (G : Good C σ ls s) {i j : Int} (ra : Real s.heap (C.D σ) a (.int i)) (rb : Real s.heap (C.D σ) b (.int j)) : Gives C ls (compareOp .Gt a b) (.bool (decide (j < i))) σ s := by
  refine Exists.elim ra.int_i fun t hx => ?_; obtain rfl := hx
  obtain ⟨u, rfl⟩ := rb.int_i
  exact Gives.quiet G (PyProof.Rows.gt_int ⟨⟨s.toks, rfl⟩, .bool _⟩)
theorem g_ge (G : Good C σ ls s) {i j : Int} (ra : Real s.heap (C.D σ) a (.int i)) (rb : Real s.heap (C.D σ) b (.int j)) : Gives C ls (compareOp .GtE a b) (.bool (decide (j ≤ i))) σ s := by
  refine Exists.elim ra.int_i fun t hx => ?_; obtain rfl := hx
  obtain ⟨u, rfl⟩ := rb.int_i
  exact Gives.quiet G (PyProof.Rows.ge_int ⟨⟨s.toks, rfl⟩, .bool _⟩)
end
end Mine
end

section

open PySem PyProof.Rows
namespace Mine
section
variable {C : Cx} {ls : Ls} {σ : View} {s : Shared} {a b : Value} {x y d : V}

theorem strOk_one {x : Str} {c : Nat} {i : Nat} (hx : PyData.strOk x = true) (hc : x.cps[i]? = some c) : PyData.strOk ⟨#[c]⟩ = true := by
  unfold PyData.strOk at *
  have := Array.all_eq_true.mp hx
  have hq0 := Array.getElem?_eq_some_iff.mp hc
  have h1 := this i hq0.1
  rw [hq0.2] at h1
  simpa using h1

theorem itemsOf_cases {xs : List V} (h : itemsOf σ x = some xs) : (∃ z, x = .str z ∧ xs = charsOf z) ∨ seqOf σ x = some xs ∨ ∃ es, dicOf σ x = some es ∧ xs = es.map fun p => V.int p.1 := by
  unfold itemsOf at h
  split at h
  · cases h; exact .inl ⟨_, rfl, rfl⟩
  · split at h
    · rename_i e; cases h; exact .inr (.inl e)
    · simp only [Option.map_eq_some_iff] at h
      obtain ⟨es, e, rfl⟩ := h
      exact .inr (.inr ⟨es, e, rfl⟩)

/-! length -/
theorem g_len (R : Rm C) (G : Good C σ ls s) {n : Nat} (ra : Real s.heap (C.D σ) a x) (h : lenOf σ x = some n) : Gives C ls (call (.builtin "len") [a]) (.int n) σ s := by
  unfold lenOf at h
  simp only [Option.map_eq_some_iff] at h
  obtain ⟨xs, hx, rfl⟩ := h
  rcases itemsOf_cases hx with ⟨z, rfl, rfl⟩ | hs | ⟨es, hd, rfl⟩
  · refine Exists.elim ra.str_i fun t hx => ?_; obtain ⟨rfl, hq1⟩ := hx
    have e : (charsOf z).length = z.length := by simp [charsOf, Str.length]
    have hz' : z.length ≤ 2 ^ 24 := hq1.2
    refine Gives.quiet G (P.len_str (by (first | lia | omega)) ⟨⟨_, rfl⟩, ?_⟩)
    exact e ▸ (.int _ _)
  · obtain ⟨a', vs, n, rfl, ho, hz, rs⟩ := seq_at G ra hs
    have el : vs.size = xs.length := by rw [← rs.length]; rfl
    rcases ho with ho | ho
    · exact Gives.quiet G (PyProof.Rows.len_list (isList_of ho) (by (first | lia | omega)) ⟨⟨_, rfl⟩, by rw [← el]; exact .int _ _⟩)
    · exact Gives.quiet G (P.len_tuple ho (by (first | lia | omega)) ⟨⟨_, rfl⟩, by rw [← el]; exact .int _ _⟩)
  · obtain ⟨a', ds, n, rfl, ho, hz, hn, h2, rs⟩ := dic_at R.ok G ra hd
    refine Exists.elim (dictOf_of (prog := C.W.prog) (w := C.W.w) ho hn rs) ?_; rintro kvs hq0
    have la : kvs.length = es.length := by have := congrArg List.length hq0.2.1; simpa using this
    have l2 : es.length = ds.size := by rw [← rs.length]; rfl
    exact Gives.quiet G (call_len_dict (sysMod h2) hq0.1 (by (first | lia | omega)) ⟨⟨_, rfl⟩, by rw [List.length_map, ← la]; exact .int _ _⟩)

/-! isinstance -/
noncomputable def SubF (t k : String) : Prop := isSubtype (.type k) (.type t) = pure (tyB t k)
noncomputable def types : List String := ["int", "bool", "str", "tuple"]
noncomputable def kinds : List String := ["NoneType", "bool", "int", "str", "tuple", "list", "dict"]
theorem all_cons {P : String → Prop} {a : String} {l : List String} (h : P a) (k : ∀ x ∈ l, P x) : ∀ x ∈ a :: l, P x := fun x hx => (List.mem_cons.mp hx).elim (fun e => e ▸ h) (k x)
theorem all_nil {P : String → Prop} : ∀ x ∈ ([] : List String), P x := fun _ h => (List.not_mem_nil h).elim
theorem sub_int : ∀ k ∈ kinds, SubF "int" k := all_cons F.sub_NoneType_int (all_cons F.sub_bool_int (all_cons F.sub_int_int (all_cons F.sub_str_int (all_cons F.sub_tuple_int (all_cons F.sub_list_int (all_cons F.sub_dict_int all_nil))))))
theorem sub_bool : ∀ k ∈ kinds, SubF "bool" k := all_cons F.sub_NoneType_bool (all_cons F.sub_bool_bool (all_cons F.sub_int_bool (all_cons F.sub_str_bool (all_cons F.sub_tuple_bool (all_cons F.sub_list_bool (all_cons F.sub_dict_bool all_nil))))))
theorem sub_str : ∀ k ∈ kinds, SubF "str" k := all_cons F.sub_NoneType_str (all_cons F.sub_bool_str (all_cons F.sub_int_str (all_cons F.sub_str_str (all_cons F.sub_tuple_str (all_cons F.sub_list_str (all_cons F.sub_dict_str all_nil))))))
theorem sub_tuple : ∀ k ∈ kinds, SubF "tuple" k := all_cons F.sub_NoneType_tuple (all_cons F.sub_bool_tuple (all_cons F.sub_int_tuple (all_cons F.sub_str_tuple (all_cons F.sub_tuple_tuple (all_cons F.sub_list_tuple (all_cons F.sub_dict_tuple all_nil))))))
theorem sub_tab : ∀ t ∈ types, ∀ k ∈ kinds, SubF t k := all_cons (P := fun t => ∀ k ∈ kinds, SubF t k) sub_int (all_cons sub_bool (all_cons sub_str (all_cons sub_tuple all_nil)))
theorem ty_tab : ∀ t ∈ types, typeOf (.type t) = pure (.type "type") := all_cons (P := fun t => typeOf (.type t) = pure (.type "type")) F.isi_meta_int (all_cons F.isi_meta_bool (all_cons F.isi_meta_str (all_cons F.isi_meta_tuple all_nil)))
theorem tyB_ne {t k : String} (h : tyB t k = false) : (Value.type k == Value.type t) = false := by
  refine beq_eq_false_iff_ne.mpr fun e => ?_
  cases e
  simp only [tyB, beq_self_eq_true, Bool.true_or] at h
  exact ff2 h
theorem isi_at (G : Good C σ ls s) {t k : String} (ht : t ∈ types) (hk : k ∈ kinds) (hT : s.TypeIs a k) (hf : tyB t k = false → wpAny (model C.W.prog C.W.w) C.A (call (.builtin "isinstance") [a, .type t]) (fun v s' => (∃ tk, s' = { s with toks := tk }) ∧ Real s.heap (C.D σ) v (.bool false)) (fun _ _ => False) s) :
    Gives C ls (call (.builtin "isinstance") [a, .type t]) (.bool (tyB t k)) σ s := by
  refine Gives.quiet G ?_
  have hs := sub_tab t ht k hk
  unfold SubF at hs
  cases e : tyB t k with
  | true => exact call_isinstance (isinstance_true (ty_tab t ht) (e ▸ hs)) ⟨hT, ⟨s.toks, rfl⟩, .bool _⟩
  | false => exact hf e
theorem g_isinst (G : Good C σ ls s) {t : String} {r : Bool} (ht : t ∈ types) (ra : Real s.heap (C.D σ) a x) (h : isTypeV σ t x = some r) :
    Gives C ls (call (.builtin "isinstance") [a, .type t]) (.bool r) σ s := by
  have hty := ty_tab t ht
  have hs : ∀ k ∈ kinds, tyB t k = false → isSubtype (.type k) (.type t) = pure false := fun k hk e => e ▸ sub_tab t ht k hk
  have hl : ∀ {l : Addr} {o : Obj}, a = .ref l → s.heap.get? l = some o → o.cls = .type "list" → Gives C ls (call (.builtin "isinstance") [a, .type t]) (.bool (tyB t "list")) σ s := by
    rintro l o rfl ho hc
    exact isi_at G ht (by decide) ⟨o, ho, hc⟩ fun e => call_isinstance (isinstance_false_list (tyB_ne e) hty (hs _ (by decide) e)) ⟨⟨o, ho, hc⟩, ⟨_, rfl⟩, .bool _⟩
  have hd : ∀ {l : Addr} {o : Obj}, a = .ref l → s.heap.get? l = some o → o.cls = .type "dict" → Gives C ls (call (.builtin "isinstance") [a, .type t]) (.bool (tyB t "dict")) σ s := by
    rintro l o rfl ho hc
    exact isi_at G ht (by decide) ⟨o, ho, hc⟩ fun e => call_isinstance (isinstance_false_dict (tyB_ne e) hty (hs _ (by decide) e)) ⟨⟨o, ho, hc⟩, ⟨_, rfl⟩, .bool _⟩
  refine Exists.elim (Option.map_eq_some_iff.mp h) fun k hx => ?_; obtain ⟨hk, rfl⟩ := hx
  cases x with
  | none =>
    obtain rfl := Option.some.inj hk
    obtain rfl := ra.none_i
    exact isi_at G ht (by decide) (typeIs_none _) fun e => call_isinstance (isinstance_false_none (tyB_ne e) hty (hs _ (by decide) e)) ⟨⟨_, rfl⟩, .bool _⟩
  | bool b =>
    obtain rfl := Option.some.inj hk
    obtain rfl := ra.bool_i
    exact isi_at G ht (by decide) rfl fun e => call_isinstance (isinstance_false_bool (tyB_ne e) hty (hs _ (by decide) e)) ⟨⟨_, rfl⟩, .bool _⟩
  | int i =>
    obtain rfl := Option.some.inj hk
    refine Exists.elim ra.int_i fun u hx => ?_; obtain rfl := hx
    exact isi_at G ht (by decide) (typeIs_int _ _ _) fun e => call_isinstance (isinstance_false_int (tyB_ne e) hty (hs _ (by decide) e)) ⟨⟨_, rfl⟩, .bool _⟩
  | str i =>
    obtain rfl := Option.some.inj hk
    refine Exists.elim ra.str_i fun u hx => ?_; obtain ⟨rfl, hq0⟩ := hx
    exact isi_at G ht (by decide) (typeIs_str _ _ _) fun e => call_isinstance (isinstance_false_str (tyB_ne e) hty (hs _ (by decide) e)) ⟨⟨_, rfl⟩, .bool _⟩
  | tup xs =>
    obtain rfl := Option.some.inj hk
    obtain ⟨l, vs, n, rfl, ho, _⟩ := ra.tup_i
    exact isi_at G ht (by decide) ⟨_, ho, rfl⟩ fun e => call_isinstance (isinstance_false_tuple (tyB_ne e) hty (hs _ (by decide) e)) ⟨⟨_, ho, rfl⟩, ⟨_, rfl⟩, .bool _⟩
  | lst xs =>
    obtain rfl := Option.some.inj hk
    obtain ⟨l, vs, n, e, ho, _⟩ := ra.lst_i
    exact hl e ho rfl
  | dct xs =>
    obtain rfl := Option.some.inj hk
    obtain ⟨l, vs, n, e, ho, _⟩ := ra.dct_i
    exact hd e ho rfl
  | ref l =>
    have hk : cellK (σ l) = some k := hk
    cases e : σ l with
    | none => rw [e] at hk; exact nn hk
    | some c =>
      rw [e] at hk
      cases c with
      | list ro xs =>
        obtain rfl := Option.some.inj hk
        obtain ⟨vs, n, ho, _⟩ := G.sim l _ e
        exact hl ra.ref_i ho rfl
      | dict ro xs =>
        obtain rfl := Option.some.inj hk
        obtain ⟨vs, n, ho, _⟩ := G.sim l _ e
        exact hd ra.ref_i ho rfl
end
end Mine
end

section

open PySem PyProof.Rows
namespace Mine

theorem idxOf_eq (i : Int) (n : Nat) : idxOf i n = seqIndex? i n := by
  unfold idxOf seqIndex?
  by_cases h : 0 ≤ i
  · have h' : ¬ i < 0 := by (first | lia | omega)
    simp only [h, h', if_true, if_false, decide_true, Bool.true_and]
    by_cases h2 : i < n
    · simp [h2]
    · simp [h2]
  · have h' : i < 0 := by (first | lia | omega)
    simp only [h, h', if_true, if_false]
    by_cases h2 : -(n : Int) ≤ i
    · have : 0 ≤ i + n := by (first | lia | omega)
      have h3 : i + n < n := by (first | lia | omega)
      simp [h2, this, h3]
    · have : ¬ 0 ≤ i + n := by (first | lia | omega)
      simp [h2, this]
theorem idxOf_cases {i : Int} {n j : Nat} (h : idxOf i n = some j) : (0 ≤ i ∧ i < n ∧ i.toNat = j) ∨ (i < 0 ∧ 0 ≤ i + n ∧ (i + n).toNat = j) := by
  unfold idxOf at h
  by_cases h0 : 0 ≤ i
  · rw [if_pos h0] at h
    by_cases h1 : i < n
    · rw [if_pos h1] at h; exact .inl ⟨h0, h1, Option.some.inj h⟩
    · rw [if_neg h1] at h; exact nn h
  · rw [if_neg h0] at h
    by_cases h1 : -(n : Int) ≤ i
    · rw [if_pos h1] at h; exact .inr ⟨Int.not_le.mp h0, by have := Int.add_le_add_right h1 (n : Int); rw [Int.add_left_neg] at this; exact this, Option.some.inj h⟩
    · rw [if_neg h1] at h; exact nn h
theorem idxOf_lt {i : Int} {n j : Nat} (h : idxOf i n = some j) : j < n ∧ -(n : Int) ≤ i ∧ i < n := by
  rcases idxOf_cases h with ⟨h0, h1, rfl⟩ | ⟨h0, h1, rfl⟩
  · exact ⟨(Int.toNat_lt h0).mpr h1, Int.le_trans (Int.neg_nonpos_of_nonneg (Int.natCast_nonneg n)) h0, h1⟩
  · have h2 : i + n < n := by have := Int.add_lt_add_right h0 (n : Int); simp only [Int.zero_add] at this; exact this
    refine ⟨(Int.toNat_lt h1).mpr h2, ?_, Int.lt_of_lt_of_le h0 (Int.natCast_nonneg n)⟩
    have := Int.add_le_add_right h1 (-(n : Int)); simp only [Int.zero_add, Int.add_neg_cancel_right] at this; exact this

section
variable {α β : Type}
theorem putD_length_le {k : Int} {v : α} : ∀ {l : List (Int × α)}, (putD k v l).length ≤ l.length + 1
  | [] => by simp [putD]
  | (i, w) :: r => by
    simp only [putD]
    split
    · simp
    · have := putD_length_le (k := k) (v := v) (l := r); simp; assumption
theorem dropD_length_le {k : Int} : ∀ {l : List (Int × α)}, (dropD k l).length ≤ l.length
  | [] => by simp [dropD]
  | (i, w) :: r => by
    simp only [dropD]
    split
    · simp
    · have := dropD_length_le (k := k) (l := r); simp; assumption
end

theorem stored_eq (k : Int) (v : Value) : ∀ {l : List (Int × Value)}, (l.map (·.1)).Nodup → stored l k v = putD k v l
  | [], _ => rfl
  | (i, w) :: r, h => by
    simp only [List.map_cons, List.nodup_cons] at h
    have ih := stored_eq k v h.2
    unfold stored at *
    simp only [putD, List.any_cons, List.map_cons]
    by_cases e : i = k
    · subst e
      have : r.map (fun kv => if kv.1 = i then (kv.1, v) else kv) = r := by
        rw [List.map_congr_left (g := id) (fun kv hk => ?_)]
        · simp
        · have : kv.1 ≠ i := fun he => h.1 ((he ▸ (List.mem_map_of_mem hk)))
          simp [this]
      simp [this]
    · simp only [e, decide_false, Bool.false_or, if_false]
      simp only [← ih]
      split <;> rfl
theorem without_eq (k : Int) : ∀ {l : List (Int × Value)}, (l.map (·.1)).Nodup → without l k = dropD k l
  | [], _ => rfl
  | (i, w) :: r, h => by
    simp only [List.map_cons, List.nodup_cons] at h
    have ih := without_eq k h.2
    unfold without at *
    by_cases e : i = k
    · subst e
      have : r.filter (fun kv => !decide (kv.1 = i)) = r := by
        rw [List.filter_eq_self]
        intro kv hk
        have : kv.1 ≠ i := fun he => h.1 ((he ▸ (List.mem_map_of_mem hk)))
        simp [this]
      simp [dropD]; simpa using this
    · simp [dropD, e]; simpa using ih

/-- dicts as keys and values -/
noncomputable def Par (h : Heap) (D : Addr → Prop) (kvs : List (Int × Value)) (xs : List (Int × V)) : Prop := kvs.map (·.1) = xs.map (·.1) ∧ Reals h D (kvs.map (·.2)) (xs.map (·.2))
section
variable {h : Heap} {D : Addr → Prop}
theorem Par.length {kvs : List (Int × Value)} {xs : List (Int × V)} (p : Par h D kvs xs) : kvs.length = xs.length := by simpa using congrArg List.length p.1
theorem Par.ind {P : List (Int × Value) → List (Int × V) → Prop} (h0 : P [] []) (h1 : ∀ i w y kvs xs, Real h D w y → Par h D kvs xs → P kvs xs → P ((i, w) :: kvs) ((i, y) :: xs)) {kvs : List (Int × Value)} {xs : List (Int × V)} (p : Par h D kvs xs) : P kvs xs := by
  induction kvs generalizing xs with
  | nil => exact (List.map_eq_nil_iff.mp p.1.symm) ▸ h0
  | cons a kvs ih =>
    cases xs with
    | nil => exact nomatch p.1
    | cons b xs =>
      obtain ⟨i, w⟩ := a
      skip
      skip
      obtain ⟨e1, e2⟩ := List.cons.inj p.1
      have e1 : i = b.1 := e1
      subst e1
      obtain ⟨v, ws, e3, r1, r2⟩ := p.2.cons_i
      obtain ⟨rfl, rfl⟩ := List.cons.inj e3
      exact h1 _ _ _ _ _ r1 ⟨e2, r2⟩ (ih ⟨e2, r2⟩)
theorem Par.cons {i : Int} {w : Value} {y : V} {kvs : List (Int × Value)} {xs : List (Int × V)} (r : Real h D w y) (p : Par h D kvs xs) : Par h D ((i, w) :: kvs) ((i, y) :: xs) := ⟨congrArg (i :: ·) p.1, .cons r p.2⟩
theorem Par.put {k : Int} {v : Value} {x : V} (rv : Real h D v x) {kvs : List (Int × Value)} {xs : List (Int × V)} (p : Par h D kvs xs) : Par h D (putD k v kvs) (putD k x xs) := by
  refine p.ind (P := fun kvs xs => Par h D (putD k v kvs) (putD k x xs)) ⟨rfl, .cons rv .nil⟩ fun i w y kvs xs r p ih => ?_
  by_cases e : i = k
  · rw [putD, putD, if_pos e, if_pos e]; exact Par.cons rv p
  · rw [putD, putD, if_neg e, if_neg e]; exact Par.cons r ih
theorem Par.drop {k : Int} {kvs : List (Int × Value)} {xs : List (Int × V)} (p : Par h D kvs xs) : Par h D (dropD k kvs) (dropD k xs) := by
  refine p.ind (P := fun kvs xs => Par h D (dropD k kvs) (dropD k xs)) ⟨rfl, .nil⟩ fun i w y kvs xs r p ih => ?_
  by_cases e : i = k
  · rw [dropD, dropD, if_pos e, if_pos e]; exact p
  · rw [dropD, dropD, if_neg e, if_neg e]; exact Par.cons r ih
theorem Par.realD {prog : Program} {w : World} {es : List DictEntry} {kvs : List (Int × Value)} {xs : List (Int × V)} (hp : Pairs (intKind prog w) es kvs) (hk : ∀ e ∈ es, ∃ k, (intKind prog w).is k e.key = true ∧ e.hash = (intKind prog w).hash k) (p : Par h D kvs xs) : RealD h D es xs := by
  refine p.ind (P := fun kvs xs => ∀ es, Pairs (intKind prog w) es kvs → (∀ e ∈ es, ∃ k, (intKind prog w).is k e.key = true ∧ e.hash = (intKind prog w).hash k) → RealD h D es xs) ?_ ?_ es hp hk
  · intro es hp _
    cases hp
    exact .nil
  · intro i v y kvs xs r p ih es hp hk
    cases hp with
    | cons h1 h2 h3 =>
      refine Exists.elim (Value.isInt_shape h1) ?_; rintro t ht
      refine Exists.elim (hk _ (.head _)) ?_; rintro k' hq0
      have : k' = i := (intKind prog w).inj _ _ _ hq0.1 h1
      subst this
      exact .cons ht hq0.2 ((h2 ▸ r)) (ih _ h3 fun e' he => hk e' (.tail _ he))
end

theorem dictObj_of {prog : Program} {w : World} {h : Heap} {D : Addr → Prop} {a : Addr} {kvs : List (Int × Value)} {xs : List (Int × V)} (hd : h.DictOf (intKind prog w) a kvs) (p : Par h D kvs xs) :
    ∃ es n, h.get? a = some (dictObj es n) ∧ es.size = xs.length ∧ (xs.map (·.1)).Nodup ∧ RealD h D es.toList xs := by
  obtain ⟨⟨c, dd, dat, sl⟩, es, ep, ho, ⟨hc1, hc2, hc3⟩, hdat, hq0⟩ := hd
  simp only at hc1 hc2 hc3 hdat
  subst hc1 hc2 hc3 hdat
  refine ⟨es, ep, ho, ?_, (p.1 ▸ hq0.2.2), Par.realD hq0.2.1 (fun e he => hq0.1 e (Array.mem_toList_iff.mp he)) p⟩
  have := hq0.2.1.length
  simp only [p.length] at this
  simpa using this
end Mine
end

section

open PySem PyProof.Rows
namespace Mine
section
variable {C : Cx} {ls : Ls} {σ : View} {s : Shared} {a b : Value} {x y d : V}

theorem leaves_keep {h h' : Heap} {D : Addr → Prop} (k : ∀ b o, h.get? b = some o → h'.get? b = some o) : Leaves h D h' D := fun b o e hd => ⟨k b o e, hd⟩

theorem Step.grownUpd {own : Addr → Prop} {h h' : Heap} {σ : View} {a : Addr} {c : Cell} (k : ∀ b o, h.get? b = some o → h'.get? b = some o) (hz : h.objs.size ≤ h'.objs.size) (ha : h.objs.size ≤ a) : Step own h σ h' (σ.upd a c) :=
  ⟨fun b o e _ _ => k b o e, hz, fun b h1 h2 => by
    by_cases q : b = a
    · simp only [q]; exact ha
    · rw [upd_ne q] at h1; exact absurd h2 h1, fun b c' hb e _ => .inl (by rw [upd_ne (Nat.ne_of_lt (Nat.lt_of_lt_of_le hb ha))]; exact e)⟩
theorem Good.grownUpd {h' : Heap} {a : Addr} {c : Cell} {tk : Nat} (G : Good C σ ls s) (k : ∀ b o, s.heap.get? b = some o → h'.get? b = some o) (hz : s.heap.objs.size ≤ h'.objs.size) (ha : s.heap.objs.size ≤ a)
    (hc : CellAt h' (C.D (σ.upd a c)) a c) : Good C (σ.upd a c) ls { s with heap := h', toks := tk } := by
  have S := Step.grownUpd (own := C.own) (σ := σ) (c := c) k hz ha
  refine G.change S (fun b _ o e => k b o e) (fun b h => ?_) (fun b h => ?_) fun b c' e => ?_
  · by_cases q : b = a
    · simp only [q]; exact Nat.le_trans G.larger ha
    · rw [upd_ne q] at h; exact G.fresh b (.inl h)
  · have : b ≠ a := Nat.ne_of_lt (Nat.lt_of_lt_of_le (G.toGround.lt (.inr h)) ha)
    exact (upd_ne this) ▸ (G.apart b h)
  · by_cases q : b = a
    · subst q; rw [upd_self] at e; cases e; exact hc
    · rw [upd_ne q] at e
      exact (G.sim b c' e).leaves (G.leaves S) fun o' e' => k b o' e'
theorem Good.noView (G : Good C σ ls s) {a : Addr} (h : s.heap.objs.size ≤ a) : σ a = none := by
  cases e : σ a with
  | none => rfl
  | some c => exact absurd (G.toGround.lt (.inl (not_some e))) (Nat.not_lt.mpr h)
theorem Good.noD (G : Good C σ ls s) {a : Addr} (h : s.heap.objs.size ≤ a) : ¬ C.D σ a := fun hd => absurd (G.toGround.lt hd) (Nat.not_lt.mpr h)

/-- a new object that the view holds from now on -/
theorem TrE.newCell {t : Sem Value} {Q : Post} {c : Cell} (G : Good C σ ls s)
    (h : wpAny (model C.W.prog C.W.w) C.A t (fun v s' => ∃ a h' tk, v = .ref a ∧ s' = { s with heap := h', toks := tk } ∧ (∀ b o, s.heap.get? b = some o → h'.get? b = some o) ∧ s.heap.objs.size ≤ a ∧
      CellAt h' (C.D (σ.upd a c)) a c) (fun _ _ => False) s)
    (q : ∀ a, σ a = none → Q (.ref a) (σ.upd a c)) : TrE C ls t (RV C Q) σ s := by
  refine wpAny_mono (wpAny_size h) (fun v s' hh => ?_) fun _ _ x => x.2
  obtain ⟨hz, a, h', tk, rfl, rfl, hq0⟩ := hh
  exact ⟨_, G.grownUpd hq0.1 hz hq0.2.1 hq0.2.2, Step.grownUpd hq0.1 hz hq0.2.1, .ref a, .ref a, q a (G.noView hq0.2.1)⟩

theorem leaves_upd (_G : Good C σ ls s) {h' : Heap} {a : Addr} {c : Cell} (k : ∀ b o, s.heap.get? b = some o → h'.get? b = some o) (ha : s.heap.objs.size ≤ a) : Leaves s.heap (C.D σ) h' (C.D (σ.upd a c)) := fun b o e hd => by
  refine ⟨k b o e, ?_⟩
  rintro (h | h)
  · have : b ≠ a := Nat.ne_of_lt (Nat.lt_of_lt_of_le (Heap.lt_size e) ha)
    rw [upd_ne this] at h; exact hd (.inl h)
  · exact hd (.inr h)

/-! membership -/
theorem ints?_map {xs : List V} {ks : List Int} (h : ints? xs = some ks) : xs = ks.map .int := by
  induction xs generalizing ks with
  | nil => replace h := Option.some.inj h; subst h; rfl
  | cons x xs ih =>
    cases x <;> simp [ints?] at h
    obtain ⟨k, hk, rfl⟩ := h
    simp [ih hk]
theorem strs?_map {xs : List V} {ks : List Str} (h : strs? xs = some ks) : xs = ks.map .str := by
  induction xs generalizing ks with
  | nil => replace h := Option.some.inj h; subst h; rfl
  | cons x xs ih =>
    cases x <;> simp [strs?] at h
    obtain ⟨k, hk, rfl⟩ := h
    simp [ih hk]
theorem bools?_map {xs : List V} {ks : List Bool} (h : bools? xs = some ks) : xs = ks.map .bool := by
  induction xs generalizing ks with
  | nil => replace h := Option.some.inj h; subst h; rfl
  | cons x xs ih =>
    cases x <;> simp [bools?] at h
    obtain ⟨k, hk, rfl⟩ := h
    simp [ih hk]
theorem g_inD (R : Rm C) (G : Good C σ ls s) {k : Int} {es : List (Int × V)} (ra : Real s.heap (C.D σ) a (.int k)) (rb : Real s.heap (C.D σ) b y) (hd : dicOf σ y = some es) :
    Gives C ls (compareOp .In a b) (.bool (lookD k es).isSome) σ s ∧ Gives C ls (compareOp .NotIn a b) (.bool (!(lookD k es).isSome)) σ s := by
  refine Exists.elim ra.int_i fun t hx => ?_; obtain rfl := hx
  obtain ⟨a', ds, n, rfl, ho, hz, hn, h2, rs⟩ := dic_at R.ok G rb hd
  obtain ⟨kvs, hq0⟩ := dictOf_of (prog := C.W.prog) (w := C.W.w) ho hn rs
  have e : (valueAt kvs k).isSome = (lookD k es).isSome := by
    rcases valueAt_of hq0.2.1 hq0.2.2 k with ⟨h1, h2⟩ | ⟨v, x, h1, h2, _⟩ <;> rw [h1, h2] <;> rfl
  exact ⟨Gives.quiet G (wpAny_in_of (intKind_is _ _ k t) (sysMod h2) hq0.1.mapOf ⟨⟨_, rfl⟩, (e ▸ (.bool _))⟩),
    Gives.quiet G (wpAny_notIn_of (intKind_is _ _ k t) (sysMod h2) hq0.1.mapOf ⟨⟨_, rfl⟩, (e ▸ (.bool _))⟩)⟩
noncomputable def strEq (k : Str) : Value → Bool
  | .str i _ => i == k
  | _ => false
theorem any_strEq {h : Heap} {D : Addr → Prop} {k : Str} {ks : List Str} {vs : List Value} (rs : Reals h D vs (ks.map .str)) : vs.any (strEq k) = ks.contains k := by
  induction ks generalizing vs with
  | nil => exact rs.nil_i ▸ rfl
  | cons i ks ih =>
    obtain ⟨v, ws, rfl, r1, r2⟩ := rs.cons_i
    refine Exists.elim r1.str_i fun u hx => ?_; obtain ⟨rfl, hq0⟩ := hx
    simp only [List.any_cons, ih r2, List.contains_cons]
    exact congrArg (· || ks.contains k) (Bool.eq_iff_iff.mpr ⟨fun h => beq_iff_eq.mpr (beq_iff_eq.mp h).symm, fun h => beq_iff_eq.mpr (beq_iff_eq.mp h).symm⟩)
theorem g_inT (R : Rm C) (G : Good C σ ls s) {k : Str} {xs : List V} {ks : List Str} (ra : Real s.heap (C.D σ) a (.str k)) (rb : Real s.heap (C.D σ) b (.tup xs)) (hk : strs? xs = some ks) :
    Gives C ls (compareOp .In a b) (.bool (ks.contains k)) σ s ∧ Gives C ls (compareOp .NotIn a b) (.bool (!ks.contains k)) σ s := by
  have hx := strs?_map hk
  subst hx
  obtain ⟨t', vs, n, rfl, ho, hz, hd, rs⟩ := rb.tup_i
  have mem : ∀ v, v ∈ vs → SeqAt.EqAt C.A.in1 s v a (strEq k v) := by
    intro v hv
    refine Exists.elim (List.mem_iff_getElem?.mp (Array.mem_toList_iff.mpr hv)) ?_; rintro i hi
    refine Exists.elim (rs.get' hi) fun w hx => ?_; obtain ⟨hw, r⟩ := hx
    refine Exists.elim (List.mem_map.mp (List.mem_iff_getElem?.mpr ⟨i, hw⟩)) fun z hx => ?_; obtain ⟨_, rfl⟩ := hx
    have := eqD_at R G r ra (show eqD σ (.str z) (.str k) = some (z == k) from rfl)
    refine Exists.elim r.str_i fun u hx => ?_; obtain ⟨rfl, hq0⟩ := hx
    exact this
  have e : vs.any (strEq k) = ks.contains k := (Array.any_toList ▸ (any_strEq rs))
  exact ⟨Gives.quiet G (SeqAt.in_tupleAt (strEq k) (isTup_of ho) mem ⟨⟨s.toks, rfl⟩, ((Eq.symm e) ▸ (.bool _))⟩),
    Gives.quiet G (SeqAt.notIn_tupleAt (strEq k) (isTup_of ho) mem ⟨⟨s.toks, rfl⟩, ((Eq.symm e) ▸ (.bool _))⟩)⟩
theorem g_inB (R : Rm C) (G : Good C σ ls s) {r : Bool} (ra : Real s.heap (C.D σ) a x) (rb : Real s.heap (C.D σ) b y) (h : inV σ x y = some r) :
    Gives C ls (compareOp .In a b) (.bool r) σ s ∧ Gives C ls (compareOp .NotIn a b) (.bool (!r)) σ s := by
  cases x with
  | int k =>
    obtain ⟨es, hd, rfl⟩ := Option.map_eq_some_iff.mp h
    exact g_inD R G ra rb hd
  | str k =>
    cases y with
    | tup xs =>
      obtain ⟨ks, hk, rfl⟩ := Option.map_eq_some_iff.mp h
      exact g_inT R G ra rb hk
    | _ => exact nn h
  | _ => exact nn h
end
end Mine
end

section

open PySem PyProof.Rows
namespace Mine
section
variable {C : Cx} {ls : Ls} {σ : View} {s : Shared} {a b : Value} {x y d : V}

theorem sz {n : Nat} (h : n ≤ 2 ^ 24) : n ≤ sizeLine := (h)

theorem Reals.of_get {h : Heap} {D : Addr → Prop} {vs : List Value} {xs : List V} (hl : vs.length = xs.length) (hg : ∀ (i : Nat) (v : Value), vs[i]? = some v → ∃ x, xs[i]? = some x ∧ Real h D v x) : Reals h D vs xs := by
  induction vs generalizing xs with
  | nil => exact (List.length_eq_zero_iff.mp hl.symm) ▸ .nil
  | cons v vs ih =>
    cases xs with
    | nil => exact absurd hl (Nat.succ_ne_zero _)
    | cons x xs =>
      obtain ⟨x', hq0⟩ := hg 0 v rfl
      exact .cons (Option.some.inj hq0.1 ▸ hq0.2) (ih (Nat.succ.inj hl) fun i w hw => hg (i + 1) w hw)

/-! copies -/
theorem listItems_of {xs : List V} (h : listItems σ x = some xs) : itemsOf σ x = some xs ∧ ∀ z, x ≠ .str z := by
  unfold listItems at h
  split at h
  · cases h
  · rename_i q; exact ⟨h, q⟩
theorem list_call (R : Rm C) (G : Good C σ ls s) {xs : List V} {Q : Value → Shared → Prop} (ra : Real s.heap (C.D σ) a x) (h : listItems σ x = some xs)
    (hQ : ∀ h' tk vs n, (∀ b o, s.heap.get? b = some o → h'.get? b = some o) → h'.get? s.heap.objs.size = some (listObj vs n) → vs.size ≤ 2 ^ 24 → Reals s.heap (C.D σ) vs.toList xs → Q (.ref s.heap.objs.size) { s with heap := h', toks := tk }) :
    wpAny (model C.W.prog C.W.w) C.A (call (.type "list") [a]) Q (fun _ _ => False) s := by
  obtain ⟨h, hstr⟩ := listItems_of h
  rcases itemsOf_cases h with ⟨z, rfl, rfl⟩ | hs | ⟨es, hd, rfl⟩
  · exact absurd rfl (hstr z)
  · obtain ⟨a', vs, n, rfl, ho, hz, rs⟩ := seq_at G ra hs
    rcases ho with ho | ho
    · exact call_list_seq a' (.inl rfl) ho rfl rfl (fun h' c' k e => hQ h' s.toks vs c' k e hz rs) (sz hz)
    · exact call_list_seq a' (.inr rfl) ho rfl rfl (fun h' c' k e => hQ h' s.toks vs c' k e hz rs) (sz hz)
  · obtain ⟨a', ds, n, rfl, ho, hz, hn, h2, rs⟩ := dic_at R.ok G ra hd
    obtain ⟨kvs, hq1⟩ := RealD.pairs (prog := C.W.prog) (w := C.W.w) rs
    have at' : s.heap.DictAt (intKind C.W.prog C.W.w) a' kvs n := ⟨_, ds, ho, ⟨rfl, rfl, rfl⟩, rfl, fun e he => hq1.2.2.2 e (Array.mem_toList_iff.mpr he), hq1.1, by rw [hq1.2.1]; exact hn⟩
    have el : kvs.length = es.length := by have := congrArg List.length hq1.2.1; simpa using this
    have el2 : es.length = ds.size := by rw [← rs.length]; rfl
    refine PySem.W.kdl_call (PySem.W.kdl_dict (sysMod h2)) R.hh at' (sz (by (first | lia | omega))) fun h' tk acc' c' k e hI => hQ h' tk acc' c' k e ?_ ?_
    · have := hI.1; (first | lia | omega)
    · refine Reals.of_get (by have := hI.1; simp; (first | lia | omega)) fun i v hv => ?_
      refine Exists.elim (hI.2 i v (by simpa using hv)) fun k hx => ?_; obtain ⟨w, hq0⟩ := hx
      have hk2 : (es.map (·.1))[i]? = some k := by rw [← hq1.2.1]; simp [hq0.1]
      refine Exists.elim (Value.isInt_shape hq0.2) fun t hx => ?_; obtain rfl := hx
      refine ⟨.int k, ?_, .int _ _⟩
      have : (es.map fun p => V.int p.1) = (es.map (·.1)).map V.int := by simp
      simp only [this, List.getElem?_map, hk2]; rfl
theorem g_list (R : Rm C) (G : Good C σ ls s) {xs : List V} (ra : Real s.heap (C.D σ) a x) (h : listItems σ x = some xs) : Gives C ls (call (.type "list") [a]) (.lst xs) σ s :=
  Gives.grown G (list_call R G ra h fun h' tk vs n k e hz rs => ⟨⟨h', tk, rfl, k⟩, fun h'' _ e' => by
    subst e'; exact .lst e hz G.newAddr (rs.leaves (leaves_keep k))⟩)
theorem g_tuple (G : Good C σ ls s) {xs : List V} (ra : Real s.heap (C.D σ) a x) (h : seqOf σ x = some xs) : Gives C ls (call (.type "tuple") [a]) (.tup xs) σ s := by
  cases x with
  | tup ys =>
    simp only [seqOf, Option.some.injEq] at h; subst h
    have ra' := ra
    cases ra with
    | tup ho hz hd rs => exact Gives.quiet G (call_tuple_same (isTup_of ho) ⟨⟨s.toks, rfl⟩, ra'⟩)
  | _ =>
    simp only [seqOf] at h
    obtain ⟨a', vs, n, rfl, ho, hz, rs⟩ := lst_at G ra h
    refine Gives.grown G (call_tuple_list (isList_of ho) (fun h' k => ⟨⟨_, s.toks, rfl, fun b o e => Heap.get?_push_of_some _ (k b o e)⟩, fun h'' k' e' => ?_⟩) (sz hz))
    subst e'
    have hs : ¬ C.D σ h'.objs.size := fun hd => by refine Exists.elim (G.toGround.there hd) ?_; rintro o e; exact absurd (Heap.lt_size (k _ _ e)) (Nat.lt_irrefl _)
    exact .tup (Heap.get?_push_size _ rfl) hz hs (rs.leaves (leaves_keep fun b o e => Heap.get?_push_of_some _ (k b o e)))

theorem dict_call (R : Rm C) (G : Good C σ ls s) {es : List (Int × V)} {Q : Value → Shared → Prop} (ra : Real s.heap (C.D σ) a x) (h : dicOf σ x = some es)
    (hQ : ∀ h', (∀ b o, s.heap.get? b = some o → h'.get? b = some o) → (∀ D', Leaves s.heap (C.D σ) h' D' → DictAt h' D' s.heap.objs.size es) →
      Q (.ref s.heap.objs.size) { s with heap := h' }) :
    wpAny (model C.W.prog C.W.w) C.A (call (.type "dict") [a]) Q (fun _ _ => False) s := by
  obtain ⟨a', ds, n, rfl, ho, hz, hn, h2, rs⟩ := dic_at R.ok G ra h
  obtain ⟨kvs, hq1⟩ := dictOf_of (prog := C.W.prog) (w := C.W.w) ho hn rs
  have el : kvs.length = es.length := by have := congrArg List.length hq1.2.1; simpa using this
  have el2 : es.length = ds.size := by rw [← rs.length]; rfl
  refine kt_call_dict (sysMod h2) hq1.1 (sz (by (first | lia | omega))) fun h' hd' hs' => ?_
  have k : ∀ b o, s.heap.get? b = some o → h'.get? b = some o := fun b o e => hs'.extBut b o (Nat.ne_of_lt (Heap.lt_size e)) (Heap.get?_push_of_some _ e)
  refine hQ h' k fun D' L => ?_
  refine Exists.elim (dictObj_of (D := D') hd' ⟨hq1.2.1, hq1.2.2.leaves L⟩) fun es' hx => ?_; obtain ⟨n', g1, g2, hq0⟩ := hx
  exact ⟨es', n', g1, by (first | lia | omega), hq0.1, hq0.2⟩
theorem g_dictF (R : Rm C) (G : Good C σ ls s) {es : List (Int × V)} (ra : Real s.heap (C.D σ) a x) (h : dicOf σ x = some es) : Gives C ls (call (.type "dict") [a]) (.dct es) σ s :=
  Gives.grown G (dict_call R G ra h fun h' k hd => ⟨⟨h', s.toks, rfl, k⟩, fun h'' _ e' => by
    subst e'
    obtain ⟨ds, n, g1, g2, g3, g4⟩ := hd _ (leaves_keep k)
    exact .dct g1 g2 g3 (Nat.lt_of_lt_of_le R.ok.two G.larger) G.newAddr g4⟩)
theorem g_dict (R : Rm C) (G : Good C σ ls s) {es : List (Int × V)} {Q : Post} (ra : Real s.heap (C.D σ) a x) (h : dicOf σ x = some es) (q : ∀ a, σ a = none → Q (.ref a) (σ.upd a (.dict false es))) :
    TrE C ls (call (.type "dict") [a]) (RV C Q) σ s :=
  TrE.newCell (c := .dict false es) G (dict_call R G ra h fun h' k hd => ⟨_, h', s.toks, rfl, rfl, k, Nat.le_refl _, hd _ (leaves_upd G k (Nat.le_refl _))⟩) q

/-! items -/
theorem g_item (R : Rm C) (G : Good C σ ls s) (ra : Real s.heap (C.D σ) a x) (rb : Real s.heap (C.D σ) b y) (h : itemV σ x y = some d) : Gives C ls (getItem a b) d σ s := by
  have main : ∀ {i : Int}, y = .int i → (match seqOf σ x with
      | some xs => (idxOf i xs.length).bind fun j => xs[j]?
      | none => (dicOf σ x).bind fun es => lookD i es) = some d → Gives C ls (getItem a b) d σ s := by
    rintro i rfl h
    obtain ⟨t, rfl⟩ := rb.int_i
    cases hs : seqOf σ x with
    | some xs =>
      rw [hs] at h
      obtain ⟨j, hj, hx⟩ := Option.bind_eq_some_iff.mp h
      obtain ⟨a', vs, n, rfl, ho, hz, rs⟩ := seq_at G ra hs
      have el : vs.size = xs.length := by rw [← rs.length]; simp
      obtain ⟨v, hv, rv⟩ := rs.get hx
      obtain ⟨h1, h2, h3⟩ := idxOf_lt hj
      have hv' : vs[j]? = some v := by simpa using hv
      rcases ho with ho | ho
      · by_cases h0 : 0 ≤ i
        · have : j = i.toNat := by unfold idxOf at hj; rw [if_pos h0, if_pos h3] at hj; cases hj; rfl
          subst this
          exact Gives.quiet G (wpAny_getItem_list (isList_of ho) h0 (by (first | lia | omega)) hv' ⟨⟨s.toks, rfl⟩, rv⟩)
        · have : j = (i + vs.size).toNat := by unfold idxOf at hj; rw [if_neg h0, if_pos h2] at hj; cases hj; rw [el]
          subst this
          exact Gives.quiet G (wpAny_getItem_list_neg (isList_of ho) (by (first | lia | omega)) (by (first | lia | omega)) (by (first | lia | omega)) hv' ⟨⟨s.toks, rfl⟩, rv⟩)
      · exact Gives.quiet G (PyProof.Rows.getItem_tuple (isTup_of ho) (by (first | lia | omega)) (by (first | lia | omega)) (by rw [el, ← idxOf_eq]; exact hj) hv' ⟨⟨s.toks, rfl⟩, rv⟩)
    | none =>
      rw [hs] at h
      obtain ⟨es, hd, hl⟩ := Option.bind_eq_some_iff.mp h
      obtain ⟨a', ds, n, rfl, ho, hz, hn, h2, rs⟩ := dic_at R.ok G ra hd
      obtain ⟨kvs, da, ea, va⟩ := dictOf_of (prog := C.W.prog) (w := C.W.w) ho hn rs
      rcases valueAt_of ea va i with ⟨_, h2⟩ | ⟨v, x, h1, h2, rv⟩
      · rw [h2] at hl; cases hl
      · rw [h2] at hl; cases hl
        exact Gives.quiet G (wpAny_getItem_of (intKind_is _ _ i t) da.mapOf h1 ⟨⟨_, rfl⟩, rv⟩)
  obtain ⟨i, rfl, h⟩ := int1_some h
  exact main rfl h
/-! numbers -/
theorem g_max2 (R : Rm C) (G : Good C σ ls s) {i j : Int} (ra : Real s.heap (C.D σ) a (.int i)) (rb : Real s.heap (C.D σ) b (.int j)) : Gives C ls (call (.builtin "max") [a, b]) (.int (max i j)) σ s := by
  refine Exists.elim ra.int_i fun _ hx => ?_; obtain rfl := hx; obtain ⟨_, rfl⟩ := rb.int_i
  refine Gives.grown G (max_two_ints R.hh fun h' tk k => ⟨⟨h', tk, rfl, k⟩, fun h'' _ e' => ?_⟩)
  split
  · rename_i q; rw [Int.max_eq_right (by solve_by_elim (maxDepth := 3) [Int.le_of_lt, Int.le_trans, Int.lt_of_lt_of_le, Int.lt_of_le_of_lt, i1, i2, i5, i6])]; exact .int _ _
  · rename_i q; rw [Int.max_eq_left (by lia)]; exact .int _ _
theorem g_min2 (R : Rm C) (G : Good C σ ls s) {i j : Int} (ra : Real s.heap (C.D σ) a (.int i)) (rb : Real s.heap (C.D σ) b (.int j)) : Gives C ls (call (.builtin "min") [a, b]) (.int (min i j)) σ s := by
  refine Exists.elim ra.int_i fun _ hx => ?_; obtain rfl := hx; obtain ⟨_, rfl⟩ := rb.int_i
  refine Gives.grown G (min_two_ints R.hh fun h' tk k => ⟨⟨h', tk, rfl, k⟩, fun h'' _ e' => ?_⟩)
  split
  · rename_i q; rw [Int.min_eq_right (by solve_by_elim (maxDepth := 3) [Int.le_of_lt, Int.le_trans, Int.lt_of_lt_of_le, Int.lt_of_le_of_lt, i1, i2, i5, i6])]; exact .int _ _
  · rename_i q; rw [Int.min_eq_left (by lia)]; exact .int _ _
theorem g_int (G : Good C σ ls s) {t : Bool} (ra : Real s.heap (C.D σ) a (.bool t)) : Gives C ls (call (.type "int") [a]) (.int (if t then 1 else 0)) σ s := by
  obtain rfl := ra.bool_i; exact Gives.quiet G (call_int_bool ⟨⟨_, rfl⟩, .int _ _⟩)

theorem g_mkTup (G : Good C σ ls s) {vs : List Value} {xs : List V} (r : Reals s.heap (C.D σ) vs xs) (h : xs.length ≤ 1000) : Gives C ls (newTuple vs) (.tup xs) σ s := by
  have hl := r.length
  exact Gives.new G (new_tup (vs := vs.toArray) G (by simp; (first | lia | omega)) (by exact r)) (wpAny_newTuple ⟨rfl, s.toks, rfl⟩ (sz (by (first | lia | omega))))
theorem g_mkList (G : Good C σ ls s) {vs : List Value} {xs : List V} (r : Reals s.heap (C.D σ) vs xs) (h : xs.length ≤ 1000) : Gives C ls (newList vs) (.lst xs) σ s := by
  have hl := r.length
  exact Gives.new G (new_lst (vs := vs.toArray) G (by simp; (first | lia | omega)) (by exact r)) (wpAny_newList ⟨rfl, s.toks, rfl⟩ (sz (by (first | lia | omega))))
theorem g_mkListM (G : Good C σ ls s) {vs : List Value} {xs : List V} {Q : Post} (r : Reals s.heap (C.D σ) vs xs) (h : xs.length ≤ 1000) (q : ∀ a, σ a = none → Q (.ref a) (σ.upd a (.list false xs))) :
    TrE C ls (newList vs) (RV C Q) σ s := by
  have hl := r.length
  refine TrE.newCell (c := .list false xs) G (wpAny_newList ⟨_, _, s.toks, rfl, rfl, fun b o e => Heap.get?_push_of_some _ e, Nat.le_refl _, vs.toArray, 0, Heap.get?_push_size _ rfl, by simp; (first | lia | omega), ?_⟩ (sz (by (first | lia | omega)))) q
  exact r.leaves (leaves_upd G (fun b o e => Heap.get?_push_of_some _ e) (Nat.le_refl _))
end
end Mine
end

section

open PySem PyProof.Rows
namespace Mine

section
variable {prog : Program} {w : World} {A : Around} {E : Value → Shared → Prop} {s : Shared}
theorem subscripted_ops (slice : Expr) (o i : Value) : ∃ ops, subscripted slice false o i = operate ops (getItem o i) := by
  cases slice with
  | Slice a b c p => cases c <;> exact ⟨_, rfl⟩
  | _ => exact ⟨_, rfl⟩
theorem subTail {value slice : Expr} {o i : Value} {T id : String} {Q : Value → Shared → Prop} (hT : s.TypeIs o T)
    (hl : typeLookup (.type T) "__getitem__" = pure (some (.builtin id))) (h : wpAny (model prog w) A (getItem o i) Q E s) : wpAny (model prog w) A (subscriptTail value slice o i) Q E s := by
  refine Exists.elim (subscripted_ops slice o i) ?_; rintro ops hs
  skip
  refine wpAny_bind ?_
  skip
  refine wpAny_bind (wpAny_specialOf hT hl ?_)
  have fin : wpAny (model prog w) A (subscripted slice false o i) (fun r s₃ => wpAny (model prog w) A (letTemporaryGo value o r >>= fun _ => pure r) Q E s₃) E s := by
    refine hs ▸ ?_
    exact wpAny_operating (wpAny_mono h (fun r s₃ h₃ => wpAny_bind (wpAny_letTemporaryGo (wpAny_pure h₃))) fun _ _ x => x)
  first
    | exact wpAny_pure (wpAny_bind fin)
    | exact wpAny_bind (wpAny_pure (wpAny_bind fin))
    | exact wpAny_bind fin

theorem clipI_eq (n : Nat) (i : Int) : clipI n i = clipAt n i := by
  rcases Int.lt_or_le i 0 with h | h
  · refine Exists.elim (Int.exists_eq_neg_ofNat (Int.le_of_lt h)) fun k hx => ?_; obtain rfl := hx
    have hk : 1 ≤ k := Nat.pos_of_ne_zero fun e => by subst e; exact absurd h (by decide)
    simp only [clipAt_neg n k hk]
    unfold clipI
    rw [if_pos h, Int.add_comm, ← Int.sub_eq_add_neg]
    exact Int.toNat_sub n k
  · refine Exists.elim (Int.eq_ofNat_of_zero_le h) fun k hx => ?_; obtain rfl := hx
    simp only [clipAt_nat]
    exact if_neg (Int.not_lt.mpr h)

theorem sliceL_eq (items : Array Value) (lo : Option Int) (hi : Option Int) : (slicePick items lo hi none).toList = sliceL items.toList (lo.getD 0) hi := by
  rw [slicePick_plain]
  dsimp only [sliceL]
  have e1 : lo.elim 0 (clipAt items.size) = clipI items.toList.length (lo.getD 0) := by
    cases lo with
    | none => rfl
    | some i => simp [clipI_eq]
  have e2 : hi.elim items.size (clipAt items.size) = hi.elim items.toList.length (clipI items.toList.length) := by
    cases hi with
    | none => simp
    | some i => simp [clipI_eq]
  refine e1 ▸ ?_; refine e2 ▸ ?_
  skip
  simp only [List.drop_take]

theorem slicePart {v : Value} {k : Option Int} {Q : Option Int → Shared → Prop} (hv : IsPart v k) (h : Q k s) : wpAny (model prog w) A (Builtin.Slice.slicePartIndex v) Q E s := by
  cases hv with
  | none => exact wpAny_pure h
  | int i t =>
    skip
    skip
    refine wpAny_bind (wpAny_specialOf (T := "int") (typeIs_int s i t) int_index ?_)
    skip
    exact wpAny_bind (wpAny_of_eq (a := i) rfl (wpAny_pure h))

theorem adjust_plain (lo hi : Option Int) (n : Nat) : Builtin.Slice.sliceAdjust lo hi 1 (n : Int) = (((lo.elim 0 (clipAt n) : Nat) : Int), ((hi.elim n (clipAt n) : Nat) : Int)) := by
  dsimp only [Builtin.Slice.sliceAdjust]
  have h1 : ¬ ((1 : Int) < 0) := by (first | lia | omega)
  skip
  refine Prod.ext ?_ ?_
  · cases lo with
    | none => rfl
    | some i => simp only [Option.elim, clipAt_cast]; split <;> (first | lia | omega)
  · cases hi with
    | none => rfl
    | some i => simp only [Option.elim, clipAt_cast]; split <;> (first | lia | omega)
theorem places_plain (a b : Nat) : Builtin.Slice.slicePlaces (a : Int) (b : Int) 1 = b - a := by
  unfold Builtin.Slice.slicePlaces
  simp only [show (1 : Int) > 0 by exact Int.le_refl _, if_true]
  split <;> lia
theorem sliceApplied_plain {sl : Addr} {n : Nat} {vl vu : Value} {lo hi : Option Int} {Q : Int × Int × Nat → Shared → Prop} (hs : s.heap.IsSliceOf sl vl vu .none) (pl : IsPart vl lo) (pu : IsPart vu hi)
    (h : Q (((lo.elim 0 (clipAt n) : Nat) : Int), 1, hi.elim n (clipAt n) - lo.elim 0 (clipAt n)) s) :
    wpAny (model prog w) A (Builtin.Slice.sliceApplied (.ref sl) (pure (n : Int))) Q E s := by
  refine Exists.elim (id hs) ?_; rintro os hq0
  skip
  refine wpAny_bind (wpAny_bind (wpAny_field hq0.1 hq0.2.2 (x := vl) rfl (wpAny_bind (wpAny_field hq0.1 hq0.2.2 (x := vu) rfl (wpAny_bind (wpAny_field hq0.1 hq0.2.2 (x := .none) rfl (wpAny_pure ?_)))))))
  refine wpAny_bind (slicePart .none ?_)
  skip
  skip
  refine wpAny_bind (slicePart pl (wpAny_bind (slicePart pu (wpAny_bind (wpAny_pure ?_)))))
  show wpAny _ _ (match Builtin.Slice.sliceAdjust lo hi 1 (n : Int) with | (lo, hi) => pure (lo, (1 : Int), Builtin.Slice.slicePlaces lo hi 1)) _ _ s
  rw [adjust_plain]
  show wpAny _ _ (pure (_, (1 : Int), Builtin.Slice.slicePlaces _ _ 1)) _ _ s
  rw [places_plain]
  exact wpAny_pure h
theorem pick_plain (xs : Array Value) (a m : Nat) : ((List.range m).filterMap fun (k : Nat) => xs[((a : Int) + (k : Int) * 1).toNat]?).toArray = ((xs.toList.drop a).take m).toArray := by
  have e : (fun (k : Nat) => xs[((a : Int) + (k : Int) * 1).toNat]?) = fun k => xs[a + k]? := by
    funext k
    have : ((a : Int) + (k : Int) * 1).toNat = a + k := by (first | lia | omega)
    rw [this]
  refine e ▸ ?_
  have := pick_run xs a m
  rw [List.filterMap_map] at this
  have e2 : ((fun x => xs[x]?) ∘ fun x => a + x) = fun k => xs[a + k]? := rfl
  rw [e2] at this
  rw [this]

/-- a tuple's part; the whole is the tuple itself -/
theorem getItem_tuple_slice {t sl : Addr} {items : Array Value} {n : Nat} {vl vu : Value} {lo hi : Option Int} {Q : Value → Shared → Prop} (ht : s.heap.get? t = some (tupObj items n)) (hs : s.heap.IsSliceOf sl vl vu .none)
    (pl : IsPart vl lo) (pu : IsPart vu hi)
    (h1 : sliceL items.toList (lo.getD 0) hi = items.toList → Q (.ref t) s)
    (h2 : Q (.ref s.heap.objs.size) { s with heap := s.heap.push (tupObj (sliceL items.toList (lo.getD 0) hi).toArray 0) })
    (hsz : items.size ≤ sizeLine) : wpAny (model prog w) A (getItem (.ref t) (.ref sl)) Q E s := by
  have et : sliceL items.toList (lo.getD 0) hi = (items.toList.drop (lo.elim 0 (clipAt items.size))).take (hi.elim items.size (clipAt items.size) - lo.elim 0 (clipAt items.size)) := by
    rw [← sliceL_eq, slicePick_plain]
  have ht' : IsTup s.heap t items := ⟨_, ht, rfl, n, rfl⟩
  have hdrop : sizeOk (.seq (sliceL items.toList (lo.getD 0) hi).toArray) := by
    show (sliceL items.toList (lo.getD 0) hi).toArray.size ≤ sizeLine
    simp only [et, List.size_toArray, List.length_take, List.length_drop, Array.length_toList]
    exact Nat.le_trans (Nat.min_le_right _ _) (Nat.le_trans (Nat.sub_le _ _) hsz)
  refine Exists.elim (id hs) ?_; rintro os hq0
  have hTs : s.TypeIs (.ref sl) "slice" := ⟨os, hq0.1, hq0.2.1⟩
  dsimp only [getItem]
  try with_reducible refine wpAny_holding ?_
  first | refine wpAny_bind (wpAny_pure ?_) | skip
  refine wpAny_bind (wpAny_sequenceKey ht'.typeIs (rfl) ?_)
  refine wpAny_bind (wpAny_callSpecial?_slot (name := Str.ofString "__getitem__") ht'.typeIs slot_tuple_getitem
    (wpAny_call_entry slot_tuple_getitem ht'.typeIs entry_tuple_getitem ?_ (args_tuple_getitem _ _)))
  show wpAny _ _ (Builtin.Tuple.tupleItemsOf (.ref t) >>= _) _ _ s
  refine wpAny_bind (tupleItemsOf_ ht' ?_)
  refine wpAny_bind (wpAny_typeOf hTs ?_)
  skip
  refine wpAny_bind (sliceApplied_plain hs pl pu ?_)
  show wpAny _ _ (if (((lo.elim 0 (clipAt items.size) : Nat) : Int) == 0 && (1 : Int) == 1 && (hi.elim items.size (clipAt items.size) - lo.elim 0 (clipAt items.size)) == items.size) = true then _ else _) _ _ s
  by_cases hw : (((lo.elim 0 (clipAt items.size) : Nat) : Int) == 0 && (1 : Int) == 1 && (hi.elim items.size (clipAt items.size) - lo.elim 0 (clipAt items.size)) == items.size) = true
  · rw [if_pos hw]
    simp only [Bool.and_eq_true, beq_iff_eq] at hw
    have h0 : lo.elim 0 (clipAt items.size) = 0 := by have := hw.1.1; (first | lia | omega)
    have hq : Q (.ref t) s := h1 (by rw [et, hw.2, h0, List.drop_zero, List.take_of_length_le (by exact Nat.le_refl _)])
    refine wpAny_bind ?_
    dsimp only [Builtin.Tuple.tupleIsExact]
    refine wpAny_bind (wpAny_typeOf ht'.typeIs (wpAny_pure ?_))
    skip
    refine wpAny_bind (wpAny_rule ?_)
    exact wpAny_pure ⟨_, rfl, wpAny_pure hq⟩
  · rw [if_neg hw, pick_plain, ← et]
    first
      | exact wpAny_bind (m := Builtin.Tuple.tupleExact _) (wpAny_newObj_type (wpAny_pure ⟨_, rfl, wpAny_pure h2⟩) hdrop)
      | exact wpAny_bind (m := Builtin.Tuple.tupleExact _) (wpAny_newObj_type (wpAny_bind (wpAny_pure (wpAny_pure ⟨_, rfl, wpAny_pure h2⟩))) hdrop)
      | exact wpAny_bind (wpAny_bind (m := Builtin.Tuple.tupleExact _) (wpAny_newObj_type (wpAny_pure (wpAny_pure ⟨_, rfl, wpAny_pure h2⟩)) hdrop))
      | exact wpAny_bind (wpAny_bind (m := Builtin.Tuple.tupleExact _) (wpAny_newObj_type (wpAny_pure ⟨_, rfl, wpAny_pure h2⟩) hdrop))
end
end Mine
end

section

open PySem PyProof.Rows
namespace Mine

section
variable {C : Cx} {ls : Ls} {σ : View} {s : Shared} {a b : Value} {x y d : V}

/-- what can be subscripted -/
theorem sub_type (R : Rm C) (G : Good C σ ls s) (ra : Real s.heap (C.D σ) a x) (h : (∃ xs, seqOf σ x = some xs) ∨ ∃ es, dicOf σ x = some es) :
    ∃ T id, s.TypeIs a T ∧ typeLookup (.type T) "__getitem__" = pure (some (.builtin id)) := by
  rcases h with ⟨xs, hs⟩ | ⟨es, hd⟩
  · obtain ⟨a', vs, n, rfl, ho, hz, rs⟩ := seq_at G ra hs
    rcases ho with ho | ho
    · exact ⟨"list", _, (isList_of ho).typeIs, slot_list_getitem.lookup⟩
    · exact ⟨"tuple", _, (isTup_of ho).typeIs, slot_tuple_getitem.lookup⟩
  · obtain ⟨a', ds, n, rfl, ho, hz, hn, h2, rs⟩ := dic_at R.ok G ra hd
    obtain ⟨kvs, da, ea, va⟩ := dictOf_of (prog := C.W.prog) (w := C.W.w) ho hn rs
    exact ⟨"dict", _, da.mapOf.typeIs, slot_dict_getitem.lookup⟩
theorem itemV_base (h : itemV σ x y = some d) : (∃ xs, seqOf σ x = some xs) ∨ ∃ es, dicOf σ x = some es := by
  obtain ⟨i, rfl, h⟩ := int1_some h
  have h : (match seqOf σ x with | some xs => (idxOf i xs.length).bind fun j => xs[j]? | none => (dicOf σ x).bind fun es => lookD i es) = some d := h
  cases e : seqOf σ x with
  | some xs => exact .inl ⟨xs, rfl⟩
  | none => rw [e] at h; obtain ⟨es, e, _⟩ := Option.bind_eq_some_iff.mp h; exact .inr ⟨es, e⟩
theorem g_itemT (R : Rm C) (G : Good C σ ls s) {u v : Expr} (ra : Real s.heap (C.D σ) a x) (rb : Real s.heap (C.D σ) b y) (h : itemV σ x y = some d) : Gives C ls (subscriptTail u v a b) d σ s := by
  refine Exists.elim (sub_type R G ra (itemV_base h)) fun T hx => ?_; obtain ⟨id, hq0⟩ := hx
  exact subTail hq0.1 hq0.2 (g_item R G ra rb h)

noncomputable def slObj (vl vu : Value) : Obj := { cls := .type "slice", dict := none, data := .fields #[vl, vu, .none] }
noncomputable def slSh (vl vu : Value) (s : Shared) : Shared := { s with heap := s.heap.push (slObj vl vu) }
theorem slice_of {vl vu : Value} : (slSh vl vu s).heap.IsSliceOf s.heap.objs.size vl vu .none := ⟨_, Heap.get?_push_size _ rfl, rfl, rfl⟩
theorem g_sliceB {u v : Expr} {vl vu : Value} {T id : String} (G : Good C σ ls s) (hT : (slSh vl vu s).TypeIs a T) (hl : typeLookup (.type T) "__getitem__" = pure (some (.builtin id))) (h : Gives C ls (getItem a (.ref s.heap.objs.size)) d σ (slSh vl vu s)) :
    Gives C ls (newFields "slice" [vl, vu, .none] >>= fun i => subscriptTail u v a i) d σ s := by
  refine TrE.bind ?_
  refine wpAny_newObj_type ⟨σ, G.push _ s.toks, Step.push _ _ _ _, ?_⟩ (by show (3 : Nat) ≤ sizeLine + 2; rw [sizeLine_eq]; decide)
  exact subTail hT hl h
theorem Reals.slice {h : Heap} {D : Addr → Prop} {vs : List Value} {xs : List V} (rs : Reals h D vs xs) (lo : Int) (hi : Option Int) : Reals h D (sliceL vs lo hi) (sliceL xs lo hi) := by
  unfold sliceL
  rw [rs.length]
  exact Reals.drop _ (Reals.take _ rs)
theorem g_sliceL {u v : Expr} {vl vu : Value} {lo hi : Option Int} {xs : List V} (G : Good C σ ls s) (ra : Real s.heap (C.D σ) a x) (pl : IsPart vl lo) (pu : IsPart vu hi) (hx : lstOf σ x = some xs) :
    Gives C ls (newFields "slice" [vl, vu, .none] >>= fun i => subscriptTail u v a i) (.lst (sliceL xs (lo.getD 0) hi)) σ s := by
  have G' : Good C σ ls (slSh vl vu s) := G.push (slObj vl vu) s.toks
  obtain ⟨a', vs, n, rfl, ho, hz, rs⟩ := lst_at G' (ra.push G (slObj vl vu)) hx
  refine g_sliceB G (isList_of ho).typeIs slot_list_getitem.lookup ?_
  refine Gives.new G' ?_ (wpAny_getItem_list_slice (isList_of ho) slice_of pl pu .none (by decide) ⟨rfl, s.toks, rfl⟩ (sz hz))
  refine new_lst G' (Nat.le_trans (slicePick_size_le _ _ _ _) hz) ?_
  rw [sliceL_eq]
  exact rs.slice _ _
theorem g_sliceT {u v : Expr} {vl vu : Value} {lo hi : Option Int} {xs : List V} (G : Good C σ ls s) (ra : Real s.heap (C.D σ) a (.tup xs)) (pl : IsPart vl lo) (pu : IsPart vu hi) :
    Gives C ls (newFields "slice" [vl, vu, .none] >>= fun i => subscriptTail u v a i) (.tup (sliceL xs (lo.getD 0) hi)) σ s := by
  have G' : Good C σ ls (slSh vl vu s) := G.push (slObj vl vu) s.toks
  obtain ⟨t, vs, n, rfl, ho, hz, hd, rs⟩ := (ra.push G (slObj vl vu)).tup_i
  refine g_sliceB G (isTup_of ho).typeIs slot_tuple_getitem.lookup ?_
  have rsl := rs.slice (lo.getD 0) hi
  refine getItem_tuple_slice (s := slSh vl vu s) ho slice_of pl pu (fun e => ?_) ?_ (sz hz)
  · rw [e] at rsl
    exact ⟨σ, G', Step.refl _ _ _, .tup ho hz hd rsl, rfl⟩
  · refine ⟨σ, G'.push _ s.toks, Step.push _ _ _ _, new_tup G' ?_ rsl, rfl⟩
    rw [List.size_toArray]
    exact Nat.le_trans (List.Sublist.length_le ((List.drop_sublist _ _).trans (List.take_sublist _ _))) hz
theorem g_slice (R : Rm C) (G : Good C σ ls s) {u v : Expr} {vl vu : Value} {lo hi : Option Int} (ra : Real s.heap (C.D σ) a x) (pl : IsPart vl lo) (pu : IsPart vu hi) (h : sliceV σ x (lo.getD 0) hi = some d) :
    Gives C ls (newFields "slice" [vl, vu, .none] >>= fun i => subscriptTail u v a i) d σ s := by
  have gen : (lstOf σ x).map (fun xs => V.lst (sliceL xs (lo.getD 0) hi)) = some d → Gives C ls (newFields "slice" [vl, vu, .none] >>= fun i => subscriptTail u v a i) d σ s := fun h => by
    obtain ⟨xs, hx, rfl⟩ := Option.map_eq_some_iff.mp h
    exact g_sliceL G ra pl pu hx
  cases x with
  | tup xs => obtain rfl := Option.some.inj h; exact g_sliceT G ra pl pu
  | _ => exact gen h
end
end Mine
end

section

open PySem PyProof.Rows
namespace Mine
section
variable {C : Cx} {ls : Ls} {σ : View} {s : Shared} {a b : Value} {x y d : V}

/-! all -/
theorem Reals.bools {h : Heap} {D : Addr → Prop} {vs : List Value} {ks : List Bool} (r : Reals h D vs (ks.map .bool)) : vs = ks.map .bool := by
  induction ks generalizing vs with
  | nil => exact r.nil_i
  | cons k ks ih => obtain ⟨v, ws, rfl, a, b⟩ := r.cons_i; refine a.bool_i ▸ ?_; refine (ih b) ▸ ?_; rfl
theorem range_all (bs : List Bool) : (List.range bs.length).all (fun i => bs[i]?.getD true) = bs.all id := by
  rw [Bool.eq_iff_iff]
  simp only [List.all_eq_true, List.mem_range, id]
  constructor
  · intro h b hb
    refine Exists.elim (List.mem_iff_getElem?.mp hb) ?_; rintro i hi
    have hq0 := List.getElem?_eq_some_iff.mp hi
    have := h i hq0.1
    rw [hi] at this; simpa using this
  · intro h i hi
    have e : bs[i]? = some bs[i] := by simp [hi]
    rw [e]; exact h _ (List.getElem_mem hi)
theorem g_all (R : Rm C) (G : Good C σ ls s) {xs : List V} {bs : List Bool} (ra : Real s.heap (C.D σ) a x) (h : lstOf σ x = some xs) (hb : bools? xs = some bs) : Gives C ls (call (.builtin "all") [a]) (.bool (bs.all id)) σ s := by
  have hx := bools?_map hb
  subst hx
  obtain ⟨a', vs, n, rfl, ho, hz, rs⟩ := lst_at G ra h
  have hv := rs.bools
  have hlt := Heap.lt_size ho
  have el : vs.size = bs.length := by have := congrArg List.length hv; simpa using this
  refine Gives.grown G (call_all_walk (wpAny_pyIter_list (isList_of ho) ⟨_, [s.heap.objs.size, a'], [s.heap.objs.size], vs.size, fun i v => vs[i]? = some v, fun i h => h.IsListIter s.heap.objs.size a' i ∧ h.IsList a' vs, fun i => bs[i]?.getD true, rfl, Walks.list (A := C.A.in1) R.hh _ a' (Nat.ne_of_lt hlt) vs, ?_, ?_, fun h' tk k => ?_⟩))
  · exact ⟨⟨_, Heap.get?_push_size _ rfl, rfl, rfl⟩, (isList_of ho).push _⟩
  · intro i v s' Q E hP hQ
    have hP' : vs.toList[i]? = some v := by simpa using hP
    rw [hv, List.getElem?_map, Option.map_eq_some_iff] at hP'
    obtain ⟨t, ht, rfl⟩ := hP'
    simp only [ht] at hQ
    exact wpAny_truthy_bool hQ
  · refine ⟨⟨h', tk, rfl, fun b o e => k b o (by simp; exact Nat.ne_of_lt (Heap.lt_size e)) (Heap.get?_push_of_some _ e)⟩, fun h'' _ _ => ?_⟩
    rw [el, range_all]; exact .bool _

/-! strings -/
theorem strOk_all {l : List Nat} (h : ∀ c ∈ l, c < 1114112) : PyData.strOk ⟨l.toArray⟩ = true := by
  dsimp only [PyData.strOk]
  refine Array.all_toList ▸ ?_
  exact List.all_eq_true.mpr fun c hc => by simpa using h c (by simpa using hc)
theorem mul_str_eq (z : Str) (n : Int) : Txt.mul z n = ⟨(List.replicate n.toNat z.cps.toList).flatten.toArray⟩ := by
  have fold : ∀ (k : Nat) (acc : Array Nat), (List.replicate k z.cps).foldl (· ++ ·) acc = acc ++ (List.replicate k z.cps.toList).flatten.toArray := by
    intro k
    induction k with
    | zero => intro acc; rfl
    | succ k ih =>
      intro acc
      simp only [List.replicate_succ, List.foldl_cons, ih, List.replicate_succ, List.flatten_cons]
      apply Array.toList_inj.mp
      simp [List.append_assoc]
  unfold Txt.mul
  split
  · have : n.toNat = 0 := by (first | lia | omega)
    refine this ▸ ?_; rfl
  · split
    · rename_i h
      simp only [Bool.or_eq_true, beq_iff_eq] at h
      rcases h with rfl | h
      · obtain ⟨⟨c⟩⟩ := z; simp
      · obtain ⟨⟨c⟩⟩ := z
        simp [Str.length] at h
        subst h
        simp
    · rw [fold]; simp
theorem flat_len {α : Type} (n : Nat) (l : List α) : (List.replicate n l).flatten.length = n * l.length := by
  induction n with
  | zero => simp
  | succ n ih => simp only [List.replicate_succ, List.flatten_cons, List.length_append, ih, Nat.succ_mul]; (first | lia | omega)
theorem g_mul (G : Good C σ ls s) (ra : Real s.heap (C.D σ) a x) (rb : Real s.heap (C.D σ) b y) (h : mulV σ x y = some d) : Gives C ls (binaryOp .Mult a b) d σ s := by
  cases x with
  | int i =>
    refine Exists.elim (int1_some h) fun j hx => ?_; obtain ⟨rfl, h⟩ := hx
    obtain ⟨hm, rfl⟩ := ite_some h
    obtain ⟨t, rfl⟩ := ra.int_i
    refine Exists.elim rb.int_i fun u hx => ?_; obtain rfl := hx
    exact Gives.quiet G (PySem.P.mul_int ⟨⟨_, rfl⟩, .int _ _⟩ (mulFits_ok hm))
  | str z =>
    refine Exists.elim (int1_some h) fun n hx => ?_; obtain ⟨rfl, h⟩ := hx
    obtain ⟨hm, rfl⟩ := ite_some h
    obtain ⟨t, rfl, hq0⟩ := ra.str_i
    refine Exists.elim rb.int_i fun u hx => ?_; obtain rfl := hx
    obtain ⟨hm1, hm2⟩ := hm
    have hm' : z.length * n.toNat ≤ 2 ^ 24 := hm1
    unfold smallI at hm2
    simp only [Bool.and_eq_true, decide_eq_true_eq] at hm2
    refine Gives.quiet G (SB.mul ⟨by skip; lia, fun h1 h2 => ?_, fun h1 h2 => ?_⟩ fun t' k => ⟨⟨k, rfl⟩, ?_⟩)
    · simp at h2
      have hn : 0 < n := by lia
      intro hgt
      have h3 : (2 ^ 63 - 1 : Int) < z.length * n := by
        have := Int.lt_mul_of_ediv_lt hn hgt
        assumption
      have h4 : ((z.length * n.toNat : Nat) : Int) = z.length * n := by rw [Int.natCast_mul, Int.toNat_of_nonneg (by solve_by_elim (maxDepth := 3) [Int.le_of_lt, Int.le_trans, Int.lt_of_lt_of_le, Int.lt_of_le_of_lt, i1, i2, i5, i6])]
      lia
    · unfold Builtin.Str.tooLong
      refine sizeLine_eq ▸ ?_; simpa using hm'
    · rw [mul_str_eq]
      refine .str _ _ (strOk_rep hq0.1 _) ?_
      skip
      rw [List.size_toArray, flat_len, Nat.mul_comm]
      exact hm'
  | _ => exact nn h

/-! lists that change -/
theorem setL {l : Addr} {xs ys : List V} {vs : Array Value} {n : Nat} {f : Array Value → Array Value} (G : Good C σ ls s) (e : σ l = some (.list false xs)) (ho : s.heap.get? l = some (listObj vs n)) (hz : (f vs).size ≤ 2 ^ 24)
    (r : Reals s.heap (C.D σ) (f vs).toList ys) : Good C (σ.upd l (.list false ys)) ls { s with heap := s.heap.update l (Obj.mapSeq f) } ∧ Step C.own s.heap σ (s.heap.update l (Obj.mapSeq f)) (σ.upd l (.list false ys)) := by
  have hs : Heap.SameBut l s.heap (s.heap.update l (Obj.mapSeq f)) := Heap.SameBut.update ..
  have S := Step.setCell (own := C.own) (c' := .list false ys) e rfl hs
  refine ⟨G.setCell (tk := s.toks) e rfl hs ⟨f vs, if (f vs).size == vs.size then n else n + 1, Heap.get?_update_self _ ho rfl, hz, ?_⟩, S⟩
  exact r.leaves (G.leaves S)
theorem set_none {v : Value} {σ' : View} {s' : Shared} {Q : Post} (hv : v = .none) (G : Good C σ' ls s') (S : Step C.own s.heap σ s'.heap σ') (q : Q .none σ') :
    EOut C ls (RV C Q) s.heap σ v s' := ⟨σ', G, S, .none, (hv ▸ .none), q⟩

theorem g_append (G : Good C σ ls s) {l : Addr} {xs : List V} {Q : Post} (ra : Real s.heap (C.D σ) a (.ref l)) (rb : Real s.heap (C.D σ) b y) (e : σ l = some (.list false xs)) (hl : xs.length < big) (q : Q .none (σ.upd l (.list false (xs ++ [y])))) :
    TrE C ls (call (.builtin "list.append") [a, b]) (RV C Q) σ s := by
  cases ra
  obtain ⟨vs, n, ho, hz, rs⟩ := G.sim l _ e
  have el : vs.size = xs.length := by rw [← rs.length]; rfl
  have hl' : xs.length < 2 ^ 24 := hl
  obtain ⟨G', S'⟩ := setL (f := fun x => x.push b) (ys := xs ++ [y]) G e ho (by rw [Array.size_push]; (first | lia | omega)) (((Eq.symm Array.toList_push) ▸ (rs.append (.cons rb .nil))))
  exact call_meets F.slot_list_append ⟨_, ho, rfl⟩ F.entry_list_append (F.args_list_append_2 _ _) (PySem.list_append l vs n b (sz hz)) ⟨ho, set_none rfl G' S' q⟩
theorem g_extend (G : Good C σ ls s) {l : Addr} {xs ys : List V} {Q : Post} (ra : Real s.heap (C.D σ) a (.ref l)) (rb : Real s.heap (C.D σ) b (.lst ys)) (e : σ l = some (.list false xs)) (hl : xs.length + ys.length ≤ big) (q : Q .none (σ.upd l (.list false (xs ++ ys)))) :
    TrE C ls (call (.builtin "list.extend") [a, b]) (RV C Q) σ s := by
  cases ra
  obtain ⟨vs, n, ho, hz, rs⟩ := G.sim l _ e
  have el : vs.size = xs.length := by rw [← rs.length]; simp
  cases rb with
  | lst hb hzb hdb rsb =>
    rename_i b' ws m
    have el2 : ws.size = ys.length := by rw [← rsb.length]; simp
    have hl' : xs.length + ys.length ≤ 2 ^ 24 := hl
    obtain ⟨G', S'⟩ := setL (f := fun x => x ++ ws) (ys := xs ++ ys) G e ho (by rw [Array.size_append]; (first | lia | omega)) (by rw [Array.toList_append]; exact rs.append rsb)
    refine call_meets F.slot_list_extend ⟨_, ho, rfl⟩ F.entry_list_extend (F.args_list_extend_2 _ _) (AutoSeq1.list_extend_list_list_0 l vs n b' ws m ?_ (sz hz) (by rw [sizeLine_eq]; (first | lia | omega))) ⟨ho, hb, set_none rfl G' S' q⟩
    unfold Builtin.List.listTooLong
    rw [sizeLine_eq]
    simp; (first | lia | omega)
/-! dicts that change -/
theorem setD {l : Addr} {xs ys : List (Int × V)} {kvs : List (Int × Value)} {h' : Heap} {tk : Nat} (G : Good C σ ls s) (e : σ l = some (.dict false xs)) (hd : h'.DictOf (intKind C.W.prog C.W.w) l kvs) (hs : Heap.SameBut l s.heap h')
    (p : Par s.heap (C.D σ) kvs ys) (hz : ys.length ≤ 2 ^ 24) : Good C (σ.upd l (.dict false ys)) ls { s with heap := h', toks := tk } ∧ Step C.own s.heap σ h' (σ.upd l (.dict false ys)) := by
  have S := Step.setCell (own := C.own) (c' := .dict false ys) e rfl hs
  refine Exists.elim (dictObj_of (D := C.D (σ.upd l (.dict false ys))) (xs := ys) hd ⟨p.1, p.2.leaves (G.leaves S)⟩) fun es' hx => ?_; obtain ⟨n', hq0⟩ := hx
  exact ⟨G.setCell e rfl hs ⟨es', n', hq0.1, by (first | lia | omega), hq0.2.2.1, hq0.2.2.2⟩, S⟩
theorem cellD {l : Addr} {xs : List (Int × V)} (G : Good C σ ls s) {ro : Bool} (e : σ l = some (.dict ro xs)) : ∃ kvs, s.heap.DictOf (intKind C.W.prog C.W.w) l kvs ∧ Par s.heap (C.D σ) kvs xs ∧ xs.length ≤ 2 ^ 24 ∧ (kvs.map (·.1)).Nodup := by
  obtain ⟨ds, n, ho, hz, hn, rs⟩ := G.sim l _ e
  obtain ⟨kvs, hq0⟩ := dictOf_of (prog := C.W.prog) (w := C.W.w) ho hn rs
  exact ⟨kvs, hq0.1, ⟨hq0.2.1, hq0.2.2⟩, by have := rs.length; simp at this; (first | lia | omega), (hq0.2.1 ▸ hn)⟩
theorem g_popD (G : Good C σ ls s) {l : Addr} {k : Int} {xs : List (Int × V)} {Q : Post} {more : List Value} (hm : more = [] ∨ ∃ d, more = [d]) (ra : Real s.heap (C.D σ) a (.ref l)) (rb : Real s.heap (C.D σ) b (.int k)) (e : σ l = some (.dict false xs)) (hx : lookD k xs = some x) (q : Q x (σ.upd l (.dict false (dropD k xs)))) :
    TrE C ls (call (.builtin "dict.pop") (a :: b :: more)) (RV C Q) σ s := by
  obtain rfl := ra.ref_i
  obtain ⟨t, rfl⟩ := rb.int_i
  obtain ⟨kvs, da, p, hz, hn⟩ := cellD G e
  have hlen := p.length
  rcases valueAt_of p.1 p.2 k with ⟨_, h2⟩ | ⟨v, x', h1, h2, rv⟩
  · exact nn (Eq.trans (Eq.symm h2) hx)
  cases Eq.trans (Eq.symm h2) hx
  refine call_meetsIn F.slot_dict_pop da.mapOf.typeIs F.entry_dict_pop ?_ (meets_dict_pop_there (intKind _ _) l (intKind_is _ _ k t) more hm rfl) ⟨kvs, v, da, sz (by lia), h1, fun h' hd' hs' => ?_⟩
  · rcases hm with rfl | ⟨d, rfl⟩
    · exact F.args_dict_pop_2 _ _
    · exact F.args_dict_pop_3 _ _ _
  · simp only [without_eq k hn] at hd'
    have hq0 := setD (tk := s.toks + 1) (ys := dropD k xs) G e hd' hs' p.drop (Nat.le_trans dropD_length_le hz)
    exact ⟨_, hq0.1, hq0.2, x, rv.step G hq0.2, q⟩
theorem g_setItem (G : Good C σ ls s) {l : Addr} {k : Int} {xs : List (Int × V)} {v : Value} {Q : View → Prop} (ra : Real s.heap (C.D σ) a (.ref l)) (rb : Real s.heap (C.D σ) b (.int k)) (rv : Real s.heap (C.D σ) v x) (e : σ l = some (.dict false xs)) (hl : xs.length < big)
    (q : Q (σ.upd l (.dict false (putD k x xs)))) : TrE C ls (setItem a b v) (fun _ σ' _ => Q σ') σ s := by
  obtain rfl := ra.ref_i
  obtain ⟨t, rfl⟩ := rb.int_i
  obtain ⟨kvs, hq1⟩ := cellD G e
  have hlen := hq1.2.1.length
  have hl' : xs.length < 2 ^ 24 := hl
  refine wpAny_setItem_pairs (intKind_is _ _ k t) hq1.1 (fun h' hd' hs' => ?_) (sz (by lia))
  simp only [stored_eq k v hq1.2.2.2] at hd'
  have hq0 := setD (tk := s.toks + 1) (ys := putD k x xs) G e hd' hs' (hq1.2.1.put rv) (Nat.le_trans putD_length_le (by assumption))
  exact ⟨_, hq0.1, hq0.2, q⟩
end
end Mine
end

section

open PySem PyProof.Rows
namespace Mine
theorem strOk_ofString (t : String) : PyData.strOk (Str.ofString t) = true := by
  rw [Str.ofString_eq_toList]
  refine strOk_all fun c hc => ?_
  refine Exists.elim (List.mem_map.mp hc) fun ch hx => ?_; obtain ⟨_, rfl⟩ := hx
  have := ch.valid
  rcases this with h | h
  · have : ch.toNat < 55296 := h
    (first | lia | omega)
  · exact h.2
section
variable {C : Cx} {ls : Ls} {σ : View} {s : Shared} {a b c : Value} {x y d : V}
theorem g_str (G : Good C σ ls s) {i : Int} (ra : Real s.heap (C.D σ) a (.int i)) (h : i.natAbs < 10 ^ 70) : Gives C ls (call (.type "str") [a]) (.str (Str.ofString (toString i))) σ s := by
  refine Exists.elim ra.int_i fun _ hx => ?_; obtain rfl := hx
  have hl : i.natAbs.log2 < 1920 := by
    by_cases h0 : i.natAbs = 0
    · refine h0 ▸ ?_; decide
    · refine (Nat.log2_lt h0).mpr (Nat.lt_trans h ?_)
      exact Nat.lt_of_lt_of_le (show 10 ^ 70 < 2 ^ 250 by decide) (Nat.pow_le_pow_right (by decide) (by decide))
  refine Gives.quiet G (P.str_of_int hl ⟨⟨_, rfl⟩, .str _ _ (strOk_ofString _) ?_⟩)
  have := int_text_fits hl
  skip
  exact this
end
end Mine
end

section

open PySem PyProof.Rows
set_option linter.unusedVariables false
set_option maxRecDepth 100000
namespace Mine
section
variable {prog : Program} {w : World} {A : Around} {E : Value → Shared → Prop} {s : Shared}
theorem minRun_bounds : ∀ (fuel n r : Nat), r ≤ 1 → 32 ≤ n → 32 ≤ minRun' fuel n r ∧ minRun' fuel n r ≤ n + 1
  | 0, n, r, h1, h2 => by
    have : minRun' 0 n r = n + r := rfl
    (first | lia | omega)
  | fuel + 1, n, r, h1, h2 => by
    simp only [minRun'_succ]
    split
    · (first | lia | omega)
    · have := minRun_bounds fuel (n / 2) (max r (n % 2)) (by (first | lia | omega)) (by (first | lia | omega))
      (first | lia | omega)
theorem minRun_at {N : Nat} (h : 64 ≤ N) : 1 < minRun' N N 0 ∧ ¬ N - 1 < minRun' N N 0 := by
  obtain ⟨f, rfl⟩ : ∃ f, N = f + 1 := ⟨N - 1, by (first | lia | omega)⟩
  have e : minRun' (f + 1) (f + 1) 0 = minRun' f ((f + 1) / 2) (max 0 ((f + 1) % 2)) := by rw [minRun'_succ, if_neg (by (first | lia | omega))]
  have := minRun_bounds f ((f + 1) / 2) (max 0 ((f + 1) % 2)) (by (first | lia | omega)) (by (first | lia | omega))
  refine e ▸ ?_; (first | lia | omega)
theorem wpS_set {σ : Type} {M : Model} {x st : σ} {Q : PUnit → σ → Prop} (h : Q ⟨⟩ x) : wpS M A E s (set x : StateT σ Sem PUnit) Q st := by
  skip; exact wpAny_pure ⟨rfl, h⟩
theorem wpS_elem {arr : Array Keyed} {i : Nat} {p : Keyed} {st : SortSt} {Q : Keyed → SortSt → Prop} (hp : arr[i]? = some p) (h : Q p st) : wpS (model prog w) A E s (elem' arr i) Q st := by
  simp only [elem'_eq, hp]; exact wpS_pure h
theorem wpS_lt {st : SortSt} {a b : Int} {t u : Tok} {p q : Value} {Q : Option Bool → SortSt → Prop} (hk : kindOf st = oneType') (h : Q (some (decide (a < b))) st) :
    wpS (model prog w) A E s (lt' (.int a t, p) (.int b u, q)) Q st := by
  dsimp only [lt'_eq]
  refine wpS_bind (wpS_get ?_)
  rw [hk, keyLt'_oneType]
  refine wpS_bind (wpS_lift (wpAny_attempt (oneLt_int ⟨rfl, ?_⟩)))
  exact wpS_pure h
theorem wpS_brk {σ β : Type} {M : Model} {b : Nat} {f : Nat → β → StateT σ Sem (ForInStep β)} {c : β} {st : σ} {Q : β → σ → Prop} (hb : 0 < b) (h : wpS M A E s (f 0 c) (fun r st' => match r with | .done c' => Q c' st' | .yield _ => False) st) : wpS M A E s (forIn [0:b] c f) Q st :=
  wpS_forRange (I := fun i c' st' => i = 0 ∧ c' = c ∧ st' = st) (by
    rintro i c' st' _ _ ⟨rfl, rfl, rfl⟩
    refine wpS_mono h fun r st' hr => ?_
    cases r with
    | done c' => exact hr
    | yield c' => exact hr.elim) (by rintro c' st' ⟨h, _⟩; (first | lia | omega)) ⟨rfl, rfl, rfl⟩
theorem wpS_emp {σ β : Type} {M : Model} {a b : Nat} {f : Nat → β → StateT σ Sem (ForInStep β)} {c : β} {st : σ} {Q : β → σ → Prop} (hb : b ≤ a) (h : Q c st) : wpS M A E s (forIn [a:b] c f) Q st :=
  wpS_forRange (I := fun i c' st' => c' = c ∧ st' = st) (by intro i c' st' h1 h2; (first | lia | omega)) (by rintro c' st' ⟨rfl, rfl⟩; exact h) ⟨rfl, rfl⟩
theorem fold_set {α : Type} {o : Nat} (ho : o = 0) : ∀ (l : List α) (k : Nat) (a : Array α), k + l.length ≤ a.size → ((l.zipIdx k).foldl (fun a x => a.setIfInBounds (o + x.2) x.1) a).toList = a.toList.take k ++ l ++ a.toList.drop (k + l.length)
  | [], k, a, h => by simp
  | x :: l, k, a, h => by
    subst ho
    rw [List.zipIdx_cons, List.foldl_cons, fold_set rfl l (k + 1) _ (by simp at h ⊢; (first | lia | omega))]
    have hk : k < a.toList.length := by simp at h ⊢; lia
    rw [Array.toList_setIfInBounds, Nat.zero_add]
    rw [List.drop_set_of_lt (by solve_by_elim (maxDepth := 2) [Nat.le_of_lt, Nat.le_trans, Nat.lt_of_lt_of_le, Nat.lt_of_le_of_lt, Nat.le_succ_of_le, Nat.lt_succ_of_le, Nat.le_of_succ_le, Nat.le_of_lt_succ, Nat.not_lt.mp, Nat.not_le.mp, Nat.le_add_right, Nat.le_add_left, Nat.sub_le])]
    have : (a.toList.set k x).take (k + 1) = a.toList.take k ++ [x] := by
      rw [List.take_set, List.take_add_one, List.getElem?_eq_getElem hk]
      rw [List.set_append_right _ _ (by rw [List.length_take]; lia), List.length_take, Nat.min_eq_left (by solve_by_elim (maxDepth := 3) [Nat.le_of_lt, Nat.le_trans, Nat.lt_of_lt_of_le, Nat.lt_of_le_of_lt, n1, n2, n5, n6]), Nat.sub_self]
      rfl
    simp only [this, List.length_cons, show k + 1 + l.length = k + (l.length + 1) by lia]
    simp
theorem len_move {α : Type} {L : List α} {k : Nat} : (L.drop k ++ L.take k).length = L.length := by rw [List.length_append, Nat.add_comm, ← List.length_append, List.take_append_drop]
theorem list_move {α : Type} {L : List α} {N : Nat} {e : α} (hN : 2 ≤ N) (hl : L.length = N) (h2 : L[N - 2]? = some e) : (L.drop (N - 1)).extract 0 1 ++ (L.take (N - 1)).extract 0 (N - 1 - 1) ++ [e] = L.drop (N - 1) ++ L.take (N - 1) := by
  rw [List.extract_eq_take_drop, List.drop_zero, List.take_of_length_le (((Eq.symm List.length_drop) ▸ (Eq.symm hl) ▸ (Nat.le_of_eq (Nat.sub_sub_self (Nat.le_trans (by decide) hN))))), List.append_assoc]
  congr 1
  simp only [List.extract_eq_take_drop, List.drop_zero, List.take_take, Nat.sub_zero, Nat.min_eq_left (Nat.sub_le _ _)]
  obtain ⟨k, rfl⟩ : ∃ k, N = k + 2 := ⟨N - 2, (Nat.sub_add_cancel hN).symm⟩
  show _ = L.take (k + 1)
  simp only [List.take_add_one, show L[k]? = some e from h2]
  rfl
theorem wpS_merge {a₀ : Array Keyed} {pw g : Nat} {N : Nat} {Q : Bool → SortSt → Prop} (hN : 64 ≤ N) (hs : a₀.size = N) (h0 : IntKeys a₀) (hasc : K a₀ (N - 1) < K a₀ 0) (hlast : K a₀ (N - 1) < K a₀ (N - 2))
    (h : ∀ x : Array Keyed, x.toList = a₀.toList.drop (N - 1) ++ a₀.toList.take (N - 1) → Q true (SortSt.mk' oneType' x #[(0, N, pw)] g none)) :
    wpS (model prog w) A E s (mergeAt' 0) Q (SortSt.mk' oneType' a₀ #[(0, N - 1, pw), (N - 1, 1, 0)] g none) := by
  have at' : ∀ i, i < N → ∃ t q, a₀[i]? = some (.int (K a₀ i) t, q) := fun i hi => by
    subst hs
    obtain ⟨n, t, hn⟩ := h0 a₀[i] (by simp)
    refine ⟨t, a₀[i].2, ?_⟩
    unfold K
    rw [getElem?_pos a₀ i hi]
    show some a₀[i] = some (.int (numOf a₀[i].1) t, a₀[i].2)
    rw [hn]; exact congrArg some (Prod.ext hn rfl)
  obtain ⟨M, rfl⟩ : ∃ M, N = M + 2 := ⟨N - 2, (Nat.sub_add_cancel (Nat.le_trans (by decide) hN)).symm⟩
  have hM : 62 ≤ M := Nat.le_of_add_le_add_right (b := 2) hN
  obtain ⟨t0, p0, e0⟩ := at' 0 (Nat.succ_pos _)
  obtain ⟨t1, p1, e1⟩ := at' (M + 1) (Nat.lt_succ_self _)
  obtain ⟨t2, p2, e2⟩ := at' M (Nat.lt_succ_of_lt (Nat.lt_succ_self _))
  have hl : a₀.toList.length = M + 2 := hs
  have hasc : K a₀ (M + 1) < K a₀ 0 := hasc
  have hlast : K a₀ (M + 1) < K a₀ M := hlast
  have h2 : a₀.toList[M + 2 - 2]? = some (.int (K a₀ M) t2, p2) := by rw [Array.getElem?_toList]; exact e2
  show wpS _ _ _ _ _ _ (SortSt.mk' oneType' a₀ #[(0, M + 1, pw), (M + 1, 1, 0)] g none)
  refine wpS_bind (wpS_get ?_)
  dsimp only [pendingOf, arrOf, kindOf, gallopOf, failedOf]
  refine wpS_bind (wpS_set ?_)
  refine wpS_bind (wpS_elem e1 ?_)
  refine wpS_bind (wpS_mono (Q := fun r st' => r = some 0 ∧ st' = SortSt.mk' oneType' a₀ #[(0, M + 2, pw)] g none) ?_ ?_)
  · refine wpS_bind (wpS_bind (wpS_elem (p := (.int (K a₀ 0) t0, p0)) e0 ?_))
    rw [if_neg (by decide)]
    refine wpS_bind (wpS_lt rfl (wpS_pure ?_))
    rw [decide_eq_true hasc]
    dsimp only [Option.map, Bool.not_true]
    rw [if_neg (by decide)]
    refine wpS_bind (wpS_brk (Nat.succ_pos _) ?_)
    rw [if_pos (by decide)]
    refine wpS_pure ?_
    dsimp only
    refine wpS_bind (wpS_brk (Nat.succ_pos _) ?_)
    rw [if_pos (by decide)]
    exact wpS_pure (wpS_pure ⟨rfl, by simp [Array.eraseIdxIfInBounds]⟩)
  rintro _ _ ⟨rfl, rfl⟩
  dsimp only
  rw [if_neg (by simp)]
  refine wpS_bind (wpS_elem (p := (.int (K a₀ M) t2, p2)) (by rw [Nat.zero_add]; exact e2) ?_)
  refine wpS_bind (wpS_mono (Q := fun r st' => r = some 1 ∧ st' = SortSt.mk' oneType' a₀ #[(0, M + 2, pw)] g none) ?_ ?_)
  · refine wpS_bind (wpS_bind (wpS_elem (p := (.int (K a₀ (M + 1)) t1, p1)) e1 ?_))
    rw [if_pos rfl]
    refine wpS_lt rfl ?_
    rw [decide_eq_true hlast]
    dsimp only
    rw [if_pos rfl]
    refine wpS_bind (wpS_brk (by decide) ?_)
    rw [if_pos (by decide)]
    refine wpS_pure ?_
    dsimp only
    refine wpS_bind (wpS_brk (by decide) ?_)
    skip
    exact wpS_pure (wpS_pure ⟨rfl, rfl⟩)
  rintro _ _ ⟨rfl, rfl⟩
  dsimp only
  rw [if_neg (by decide), if_neg (show ¬ M + 1 - 0 ≤ 1 from fun q => absurd (Nat.le_trans (Nat.succ_le_succ hM) q) (by decide))]
  have y1 : (a₀.extract (M + 1) (M + 1 + 1)).toList = a₀.toList.drop (M + 1) := by
    rw [Array.toList_extract, List.extract_eq_take_drop, List.take_of_length_le ((List.length_drop ▸ hl ▸ (Nat.le_refl _)))]
  have x1 : (a₀.extract (0 + 0) (M + 1)).toList = a₀.toList.take (M + 1) := by
    simp only [Array.toList_extract, List.extract_eq_take_drop]; rfl
  have hx : (a₀.extract (0 + 0) (M + 1)).size = M + 1 := by
    exact Array.length_toList ▸ x1 ▸ List.length_take ▸ hl ▸ (Nat.min_eq_left (Nat.le_succ _))
  have hy : (a₀.extract (M + 1) (M + 1 + 1)).size = 1 := by
    exact Array.length_toList ▸ y1 ▸ List.length_drop ▸ hl ▸ (Nat.add_sub_cancel_left (M + 1) 1)
  refine wpS_bind (wpS_mono (Q := fun r st' => r.toList = a₀.toList.drop (M + 1) ++ a₀.toList.take (M + 1) ∧ st' = SortSt.mk' oneType' a₀ #[(0, M + 2, pw)] g none) ?_ ?_)
  · refine wpS_bind (wpS_lift (wpAny_rule ⟨rfl, ?_⟩))
    refine wpS_bind (wpS_elem (p := (.int (K a₀ M) t2, p2)) (((Eq.symm hx) ▸ (Eq.symm (Array.getElem?_toList)) ▸ (Eq.symm x1) ▸ (Eq.symm (List.getElem?_take_of_lt (show M + 1 - 1 < M + 1 from Nat.lt_succ_self _))) ▸ h2)) ?_)
    rw [if_neg (by rw [hx]; simp; exact Nat.ne_of_gt (Nat.lt_of_lt_of_le (by decide) hM)), if_pos (by rw [hy]; rfl)]
    refine wpS_pure ⟨?_, rfl⟩
    refine (Eq.symm hx) ▸ ?_; refine (Eq.symm hy) ▸ ?_
    simp only [Array.toList_append, Array.toList_extract (xs := a₀.extract _ _)]
    refine (Eq.symm y1) ▸ ?_; refine (Eq.symm x1) ▸ ?_
    exact list_move (Nat.le_add_left 2 M) hl h2
  rintro m _ ⟨hm, rfl⟩
  refine wpS_bind (wpS_modify ?_)
  refine wpS_bind (wpS_get ?_)
  refine wpS_pure (h _ ?_)
  refine (fold_set rfl m.toList 0 a₀ ?_).trans ?_
  · simp only [Nat.zero_add, hm, len_move]; exact Nat.le_refl _
  · simp only [hm, List.take_zero, List.nil_append, Nat.zero_add, len_move, List.drop_of_length_le (Nat.le_refl _), List.append_nil]; rfl
theorem wpS_count {a₀ : Array Keyed} {N : Nat} {st : SortSt} {Q : Option Nat → SortSt → Prop} (hN : 3 ≤ N) (hs : a₀.size = N) (h0 : IntKeys a₀) (hB : SBase a₀ st) (ha : arrOf st = a₀) (hasc : ∀ i j, i < j → j < N - 1 → K a₀ i < K a₀ j) (hlast : ∀ i, i < N - 1 → K a₀ (N - 1) < K a₀ i)
    (h : Q (some (N - 1)) st) : wpS (model prog w) A E s (countRun' 0 N) Q st := by
  rw [countRun0_eq]
  refine wpS_bind (wpS_ascLoop h0 (Nat.le_of_eq hs.symm) (Nat.le_refl _) (Nat.le_trans (by decide) hN) hB (fun i j hij hj => ((Nat.le_antisymm hij (Nat.le_trans (Nat.le_of_lt_succ hj) (Nat.zero_le _))) ▸ (Int.le_refl _))) fun n n1 n2 hsn hor => ?_)
  rw [ha] at hsn hor
  have hNo : n ≠ N := fun e => by
    subst e
    exact absurd (hlast 0 (by lia)) (Int.not_lt.mpr (hsn 0 (n - 1) (Nat.zero_le _) (by lia)))
  have hn : n = N - 1 := by
    apply Classical.byContradiction; intro hne
    exact absurd (hasc (n - 1) n (by lia) (by lia)) (Int.not_lt.mpr (Int.le_of_lt (hor.resolve_left hNo)))
  subst hn
  dsimp only
  rw [if_neg (by simpa using hNo), if_pos (by lia)]
  refine wpS_bind (wpS_ltK hB h0 (by lia) (by lia) ?_)
  refine (Eq.symm ha) ▸ ?_; refine (Eq.symm (decide_eq_true (hasc 0 (N - 1 - 1) (by lia) (by lia)))) ▸ ?_
  skip
  skip
  exact wpS_pure h
theorem wpS_count1 {lo : Nat} {st : SortSt} {Q : Option Nat → SortSt → Prop} (h : Q (some 1) st) : wpS (model prog w) A E s (countRun' lo 1) Q st := by
  skip
  refine wpS_bind (wpS_emp (Nat.le_refl _) ?_)
  skip
  skip
  exact wpS_pure h
theorem wpS_bin1 {lo : Nat} {st : SortSt} {Q : Bool → SortSt → Prop} (h : Q true st) : wpS (model prog w) A E s (binarySort' lo 1 1) Q st := by
  dsimp only [binarySort'_eq]
  refine wpS_bind (wpS_emp (Nat.le_refl _) ?_)
  exact wpS_pure h
inductive RunSt (a₀ : Array Keyed) (N : Nat) : Nat → Option Unit × Nat → SortSt → Prop
  | zero : RunSt a₀ N 0 (none, 0) (SortSt.mk' oneType' a₀ #[] 7 none)
  | one : RunSt a₀ N 1 (none, N - 1) (SortSt.mk' oneType' a₀ #[(0, N - 1, 0)] 7 none)
  | two {x pw : Nat} (h : 2 ≤ x) : RunSt a₀ N x (none, N) (SortSt.mk' oneType' a₀ #[(0, N - 1, pw), (N - 1, 1, 0)] 7 none)
inductive RunEd (a₀ : Array Keyed) (N : Nat) : Option Unit × Nat → SortSt → Prop
  | mk {pw : Nat} : RunEd a₀ N (none, N) (SortSt.mk' oneType' a₀ #[(0, N - 1, pw), (N - 1, 1, 0)] 7 none)
inductive MrgSt (a₀ : Array Keyed) (N pw : Nat) : Nat → Option Unit × Unit → SortSt → Prop
  | zero : MrgSt a₀ N pw 0 (none, ()) (SortSt.mk' oneType' a₀ #[(0, N - 1, pw), (N - 1, 1, 0)] 7 none)
  | one {n : Nat} {x : Array Keyed} (h : x.toList = a₀.toList.drop (N - 1) ++ a₀.toList.take (N - 1)) : MrgSt a₀ N pw (n + 1) (none, ()) (SortSt.mk' oneType' x #[(0, N, pw)] 7 none)
theorem RunSt.fin {a₀ : Array Keyed} {N n : Nat} {c : Option Unit × Nat} {st : SortSt} (h : RunSt a₀ N n c st) (hn : 2 ≤ n) : RunEd a₀ N c st := by
  cases h with
  | zero => exact absurd hn (by decide)
  | one => exact absurd hn (by decide)
  | two _ => exact .mk
theorem MrgSt.fin {a₀ : Array Keyed} {N pw n : Nat} {c : Option Unit × Unit} {st : SortSt} (h : MrgSt a₀ N pw n c st) (hn : 0 < n) : MrgSt a₀ N pw 1 c st := by
  cases h with
  | zero => exact absurd hn (by decide)
  | one hx => exact .one hx
theorem wpS_runs {a₀ : Array Keyed} {N : Nat} {Q : Unit → SortSt → Prop} (hN : 64 ≤ N) (hs : a₀.size = N) (h0 : IntKeys a₀) (hasc : ∀ i j, i < j → j < N - 1 → K a₀ i < K a₀ j) (hlast : ∀ i, i < N - 1 → K a₀ (N - 1) < K a₀ i)
    (h : ∀ (x : Array Keyed) pw, x.toList = a₀.toList.drop (N - 1) ++ a₀.toList.take (N - 1) → Q () (SortSt.mk' oneType' x #[(0, N, pw)] 7 none)) :
    wpS (model prog w) A E s sortRuns' Q (SortSt.mk' oneType' a₀ #[] 7 none) := by
  obtain ⟨m1, m2⟩ := minRun_at hN
  have n1 : 0 < N := Nat.lt_of_lt_of_le (by decide) hN
  have n2 : 1 < N := Nat.lt_of_lt_of_le (by decide) hN
  refine sortRuns'_eq ▸ ?_
  refine wpS_bind (wpS_get ?_)
  dsimp only [arrOf]
  simp only [hs]
  generalize minRun' N N 0 = mr at m1 m2
  refine wpS_bind (wpS_mono (wpS_forRange (I := RunSt a₀ N) (Q := RunEd a₀ N) ?step ?fin .zero) ?post)
  case fin =>
    intro c st' hI
    exact hI.fin (Nat.le_trans n2 (Nat.le_max_right _ _))
  case step =>
    intro x c st' _ _ hI
    cases hI with
    | zero =>
      skip
      rw [if_neg (Nat.not_le.mpr n1), Nat.sub_zero]
      refine wpS_bind (wpS_count (Nat.le_trans (by decide) hN) hs h0 ⟨Array.Perm.refl _, rfl, rfl, rfl⟩ rfl hasc hlast ?_)
      dsimp only
      rw [if_neg m2]
      refine wpS_bind (wpS_get ?_)
      exact wpS_bind (wpS_modify (wpS_pure (Nat.zero_add _ ▸ .one)))
    | one =>
      skip
      rw [if_neg (Nat.not_le.mpr (Nat.sub_lt n1 Nat.one_pos)), Nat.sub_sub_self n1]
      refine wpS_bind (wpS_count1 ?_)
      dsimp only
      rw [if_pos m1]
      refine wpS_bind (wpS_lift (wpAny_rule ⟨rfl, ?_⟩))
      refine (Eq.symm (Nat.min_eq_left (Nat.le_of_lt m1))) ▸ ?_
      refine wpS_bind (wpS_bin1 ?_)
      skip
      refine wpS_bind (wpS_get ?_)
      refine wpS_bind (wpS_brk n1 ?_)
      refine wpS_bind (wpS_get ?_)
      skip
      refine wpS_pure ?_
      refine wpS_bind (wpS_modify ?_)
      refine wpS_bind (wpS_modify (wpS_pure ?_))
      show RunSt a₀ N (1 + 1) (none, N - 1 + 1) _
      rw [Nat.sub_add_cancel n1]
      exact .two (Nat.le_refl _)
    | two _ =>
      skip
      rw [if_pos (Nat.le_refl _)]
      exact wpS_pure .mk
  case post =>
    intro c st' hE
    cases hE with
    | @mk pw =>
      skip
      refine wpS_bind (wpS_mono (wpS_forRange (I := MrgSt a₀ N pw) (Q := MrgSt a₀ N pw 1) ?_ ?_ .zero) ?_)
      · intro x c st' _ _ hI
        cases hI with
        | zero =>
          refine wpS_bind (wpS_get ?_)
          skip
          refine wpS_bind (wpS_merge hN hs h0 (hlast 0 (by lia)) (hlast (N - 2) (by lia)) fun x hx => ?_)
          skip
          exact wpS_pure (.one hx)
        | one hx =>
          refine wpS_bind (wpS_get ?_)
          skip
          exact wpS_pure (.one hx)
      · intro c st' hI
        exact hI.fin (Nat.lt_of_lt_of_le n1 (Nat.le_max_right _ _))
      · intro c st' hI
        cases hI with
        | one hx => exact wpS_pure (h _ pw hx)
theorem sort_last {a : Addr} {vs : List Value} {ns : List Int} {n : Nat} {P : Fin → Shared → Prop} (ho : s.heap.get? a = some (seqObj "list" vs.toArray n)) (hI : IntsAre vs ns) (hz : vs.length ≤ 2 ^ 24) (h64 : 64 ≤ vs.length)
    (hasc : ∀ i j, i < j → j < vs.length - 1 → K (pairsOf vs) i < K (pairsOf vs) j) (hlast : ∀ i, i < vs.length - 1 → K (pairsOf vs) (vs.length - 1) < K (pairsOf vs) i)
    (h : ∀ out : Array Value, out.toList = vs.drop (vs.length - 1) ++ vs.take (vs.length - 1) → P (.done (.ret .none)) { s with heap := sortedHeap s.heap a vs out }) :
    wpAny (model prog w) A (Builtin.«list.sort» ⟨[.ref a], []⟩) P E s := by
  rw [list_sort_plain]
  have hsz : vs.toArray.size = vs.length := by rfl
  refine wpAny_bind (listItems_at ho rfl ?_)
  refine wpAny_bind (listUpdate_at ho rfl ?_ ((hz)) ((Nat.zero_le _)))
  obtain ⟨e1, ho1⟩ : ∃ e1, (s.heap.update a (Obj.mapSeq fun _ => #[])).get? a = some (seqObj "list" #[] e1) := ⟨_, get?_update_seq ho (fun _ => #[])⟩
  refine wpAny_bind (seqEpoch_at ho1 rfl ?_)
  refine wpAny_bind (wpAny_newTuple ?_ ((Nat.le_trans hz ((Nat.le_refl _)))))
  refine wpAny_bind (wpAny_newList ?_)
  refine wpAny_holding ?_
  have ha : a < s.heap.objs.size := Heap.lt_size ho
  have ho6 : (((s.heap.update a (Obj.mapSeq fun _ => #[])).push (seqObj "tuple" vs.toArray 0)).push (seqObj "list" #[] 0)).get? a = some (seqObj "list" #[] e1) :=
    Heap.get?_push_of_some _ (Heap.get?_push_of_some _ ho1)
  show wpAny (model prog w) A _ P E { s with heap := ((s.heap.update a (Obj.mapSeq fun _ => #[])).push (seqObj "tuple" vs.toArray 0)).push (seqObj "list" #[] 0) }
  skip
  have h2 : ¬ vs.toArray.size < 2 := by (first | lia | omega)
  refine (if_neg h2) ▸ ?_; refine (if_neg h2) ▸ ?_
  have hk : keyKind' vs.toArray = pure oneType' := by
    match vs, hI, h64 with
    | v₁ :: v₂ :: rest, hI, _ => exact keyKind_ints hI
  refine hk ▸ ?_
  refine wpAny_bind (wpAny_pure ?_)
  refine wpAny_bind (wpAny_mono (wpS_runs (a₀ := pairsOf vs) (Q := fun _ st' => (arrOf st').toList = (pairsOf vs).toList.drop (vs.length - 1) ++ (pairsOf vs).toList.take (vs.length - 1) ∧ failedOf st' = none) h64 (pairsOf_size vs) hI.intKeys hasc hlast fun x pw hx => ⟨hx, rfl⟩) ?_ fun _ _ e => e)
  rintro ⟨⟨⟩, st'⟩ s' ⟨rfl, hp, hf⟩
  skip
  refine wpAny_bind (seqEpoch_at ho6 rfl ?_)
  have eo : ((arrOf st').map (·.2)).toList = vs.drop (vs.length - 1) ++ vs.take (vs.length - 1) := by
    rw [Array.toList_map, hp, List.map_append, List.map_drop, List.map_take, pairsOf_toList, List.map_snd_zip (Nat.le_refl _)]
  refine wpAny_bind (listUpdate_at ho6 rfl ?_ (Nat.zero_le _) (by
    rw [← Array.length_toList, eo, len_move, sizeLine_eq]; exact Nat.le_succ_of_le hz))
  refine hf ▸ ?_
  simp only [bne_self_eq_false, Bool.false_eq_true, if_false]
  exact wpAny_pure (h _ eo)
theorem sorted_last {l : Addr} {vs : List Value} {ns : List Int} {Q : Value → Shared → Prop} (hl : s.heap.IsList l vs.toArray) (hI : IntsAre vs ns) (hz : vs.length ≤ 2 ^ 24) (h64 : 64 ≤ vs.length)
    (hasc : ∀ i j, i < j → j < vs.length - 1 → K (pairsOf vs) i < K (pairsOf vs) j) (hlast : ∀ i, i < vs.length - 1 → K (pairsOf vs) (vs.length - 1) < K (pairsOf vs) i)
    (h : ∀ out : Array Value, out.toList = vs.drop (vs.length - 1) ++ vs.take (vs.length - 1) → Q (.ref (s.heap.objs.size + 1)) { s with heap := sortedAll s.heap vs out }) :
    wpAny (model prog w) A (call (.builtin "sorted") [.ref l]) Q E s := by
  have hzl : vs.length ≤ sizeLine := (hz)
  refine Calls.call_function_entry kind_sorted plain_sorted entry_sorted (args_sorted1 _) ?_
  unfold Builtin.«sorted»
  refine wpAny_bind (m := checkCount "sorted" 1 1 _) (wpAny_pure ?_)
  refine wpAny_bind (collect_list hl ?_ hzl)
  refine wpAny_bind (wpAny_newList ?_ (by simpa using Nat.le_trans hzl (by exact Nat.le_refl _)))
  have hsz : ((s.heap.push (seqObj "list" #[] 0)).update s.heap.objs.size (Obj.mapSeq (· ++ vs.toArray))).objs.size = s.heap.objs.size + 1 := by
    rw [Heap.size_update, size_push']
  have hoL : (((s.heap.push (seqObj "list" #[] 0)).update s.heap.objs.size (Obj.mapSeq (· ++ vs.toArray))).push (seqObj "list" vs.toArray 0)).get? (s.heap.objs.size + 1) = some (seqObj "list" vs.toArray 0) := by
    exact hsz ▸ (Heap.get?_push_size _ rfl)
  show wpAny _ _ _ _ _ { s with heap := ((s.heap.push (seqObj "list" #[] 0)).update s.heap.objs.size (Obj.mapSeq (· ++ vs.toArray))).push (seqObj "list" vs.toArray 0) }
  refine hsz ▸ ?_
  refine wpAny_bind (wpAny_holding (wpAny_call_entry slot_list_sort ⟨_, hoL, rfl⟩ entry_list_sort (sort_last hoL hI hz h64 hasc hlast fun out eo => ⟨_, rfl, ?_⟩) (args_list_sort _)))
  exact wpAny_pure ⟨_, rfl, h out eo⟩
end
end Mine
end

section

open PySem PyProof.Rows
set_option linter.unusedVariables false
set_option maxRecDepth 100000
namespace Mine
theorem filterMap_congr' {α β : Type} {f g : α → Option β} : ∀ {l : List α}, (∀ k ∈ l, f k = g k) → l.filterMap f = l.filterMap g
  | [], _ => rfl
  | x :: l, h => by simp only [List.filterMap_cons]; rw [h x (.head _), filterMap_congr' fun k hk => h k (.tail _ hk)]
section
variable {prog : Program} {w : World} {A : Around} {E : Value → Shared → Prop} {s : Shared}
theorem pick_rev (xs : Array Value) : ((List.range xs.size).filterMap fun (k : Nat) => xs[(((xs.size : Int) - 1) + (k : Int) * (-1)).toNat]?).toArray = xs.toList.reverse.toArray := by
  congr 1
  have e : (List.range xs.size).filterMap (fun (k : Nat) => xs[(((xs.size : Int) - 1) + (k : Int) * (-1)).toNat]?) = (List.range xs.size).filterMap (fun (k : Nat) => xs.toList.reverse[k]?) := by
    apply filterMap_congr'
    intro k hk
    have hk := List.mem_range.mp hk
    simp only [List.getElem?_reverse (by exact hk), show (((xs.size : Int) - 1) + (k : Int) * (-1)).toNat = xs.toList.length - 1 - k by rw [Int.mul_neg, Int.mul_one, ← Int.sub_eq_add_neg, Int.sub_sub, Nat.sub_sub]; exact Int.toNat_sub xs.size (1 + k)]
    simp
  refine e ▸ ?_
  have go : ∀ (l : List Value) (n : Nat), n = l.length → (List.range n).filterMap (fun (k : Nat) => l[k]?) = l := by
    intro l
    induction l with
    | nil => intro n hn; subst hn; rfl
    | cons x l ih =>
      intro n hn; subst hn
      rw [List.length_cons, List.range_succ_eq_map, List.filterMap_cons, List.filterMap_map]
      show x :: _ = _
      congr 1
      exact ih _ rfl
  exact go _ _ (by simp)
theorem sliceApplied_rev {sl : Addr} {n : Nat} {t : Tok} {Q : Int × Int × Nat → Shared → Prop} (hs : s.heap.IsSliceOf sl .none .none (.int (-1) t)) (h : Q ((n : Int) - 1, -1, n) s) :
    wpAny (model prog w) A (Builtin.Slice.sliceApplied (.ref sl) (pure (n : Int))) Q E s := by
  refine Exists.elim (id hs) ?_; rintro os hq0
  skip
  refine wpAny_bind (wpAny_bind (wpAny_field hq0.1 hq0.2.2 (x := .none) rfl (wpAny_bind (wpAny_field hq0.1 hq0.2.2 (x := .none) rfl (wpAny_bind (wpAny_field hq0.1 hq0.2.2 (x := .int (-1) t) rfl (wpAny_pure ?_)))))))
  refine wpAny_bind (slicePart (.int _ _) ?_)
  skip
  skip
  refine wpAny_bind (slicePart .none (wpAny_bind (slicePart .none (wpAny_bind (wpAny_pure ?_)))))
  have e : Builtin.Slice.slicePlaces ((n : Int) - 1) (-1) (-1) = n := by
    unfold Builtin.Slice.slicePlaces
    rw [if_neg (by decide)]
    split
    · skip; (first | lia | omega)
    · (first | lia | omega)
  show wpAny _ _ (pure ((n : Int) - 1, (-1 : Int), Builtin.Slice.slicePlaces ((n : Int) - 1) (-1) (-1))) _ _ s
  refine (Eq.symm e) ▸ ?_
  exact wpAny_pure h
theorem getItem_tuple_rev {a sl : Addr} {items : Array Value} {n : Nat} {t : Tok} {Q : Value → Shared → Prop} (ht : s.heap.get? a = some (tupObj items n)) (hs : s.heap.IsSliceOf sl .none .none (.int (-1) t))
    (h2 : Q (.ref s.heap.objs.size) { s with heap := s.heap.push (tupObj items.toList.reverse.toArray 0) }) (hsz : items.size ≤ sizeLine) : wpAny (model prog w) A (getItem (.ref a) (.ref sl)) Q E s := by
  have ht' : IsTup s.heap a items := ⟨_, ht, rfl, n, rfl⟩
  have hdrop : sizeOk (.seq items.toList.reverse.toArray) := by show items.toList.reverse.toArray.size ≤ sizeLine; simpa using hsz
  refine Exists.elim (id hs) ?_; rintro os hq0
  have hTs : s.TypeIs (.ref sl) "slice" := ⟨os, hq0.1, hq0.2.1⟩
  dsimp only [getItem]
  try with_reducible refine wpAny_holding ?_
  first | refine wpAny_bind (wpAny_pure ?_) | skip
  refine wpAny_bind (wpAny_sequenceKey ht'.typeIs (rfl) ?_)
  refine wpAny_bind (wpAny_callSpecial?_slot (name := Str.ofString "__getitem__") ht'.typeIs slot_tuple_getitem
    (wpAny_call_entry slot_tuple_getitem ht'.typeIs entry_tuple_getitem ?_ (args_tuple_getitem _ _)))
  show wpAny _ _ (Builtin.Tuple.tupleItemsOf (.ref a) >>= _) _ _ s
  refine wpAny_bind (tupleItemsOf_ ht' ?_)
  refine wpAny_bind (wpAny_typeOf hTs ?_)
  skip
  refine wpAny_bind (sliceApplied_rev hs ?_)
  show wpAny _ _ (if (((items.size : Int) - 1) == 0 && (-1 : Int) == 1 && items.size == items.size) = true then _ else _) _ _ s
  rw [if_neg (by simp), pick_rev]
  first
    | exact wpAny_bind (m := Builtin.Tuple.tupleExact _) (wpAny_newObj_type (wpAny_pure ⟨_, rfl, wpAny_pure h2⟩) hdrop)
    | exact wpAny_bind (m := Builtin.Tuple.tupleExact _) (wpAny_newObj_type (wpAny_bind (wpAny_pure (wpAny_pure ⟨_, rfl, wpAny_pure h2⟩))) hdrop)
    | exact wpAny_bind (wpAny_bind (m := Builtin.Tuple.tupleExact _) (wpAny_newObj_type (wpAny_pure (wpAny_pure ⟨_, rfl, wpAny_pure h2⟩)) hdrop))
    | exact wpAny_bind (wpAny_bind (m := Builtin.Tuple.tupleExact _) (wpAny_newObj_type (wpAny_pure ⟨_, rfl, wpAny_pure h2⟩) hdrop))
end
section
variable {C : Cx} {ls : Ls} {σ : View} {s : Shared} {a b : Value} {x y d : V}
theorem g_rev (R : Rm C) (G : Good C σ ls s) {u v : Expr} {xs : List V} (ra : Real s.heap (C.D σ) a (.tup xs)) (rb : Real s.heap (C.D σ) b (.int (-1))) :
    Gives C ls (newFields "slice" [.none, .none, b] >>= fun i => subscriptTail u v a i) (.tup xs.reverse) σ s := by
  obtain ⟨t, rfl⟩ := rb.int_i
  refine TrE.bind ?_
  refine wpAny_newObj_type ⟨σ, G.push _ s.toks, Step.push _ _ _ _, ?_⟩ (by show (3 : Nat) ≤ sizeLine + 2; rw [sizeLine_eq]; decide)
  have G' := G.push (s := s) { cls := .type "slice", dict := none, data := .fields #[.none, .none, .int (-1) t] } s.toks
  have ra' := ra.push (s := s) G { cls := .type "slice", dict := none, data := .fields #[.none, .none, .int (-1) t] }
  obtain ⟨T, id, hT, hl⟩ := sub_type R G' ra' (.inl ⟨_, rfl⟩)
  have hs : (s.heap.push { cls := .type "slice", dict := none, data := .fields #[.none, .none, .int (-1) t] }).IsSliceOf s.heap.objs.size .none .none (.int (-1) t) := ⟨_, Heap.get?_push_size _ rfl, rfl, rfl⟩
  refine subTail hT hl ?_
  cases ra' with
  | tup ho hz hd rs =>
    exact Gives.new G' (new_tup G' (by simpa using hz) (by simpa using rs.reverse)) (getItem_tuple_rev ho hs ⟨rfl, s.toks, rfl⟩ (sz hz))
theorem g_maxL (R : Rm C) (G : Good C σ ls s) {xs : List V} {ks : List Int} (ra : Real s.heap (C.D σ) a x) (h : lstOf σ x = some xs) (hk : ints? xs = some ks) (hn : 0 < ks.length) : Gives C ls (call (.builtin "max") [a]) (.int (maxV ks)) σ s := by
  have hx := ints?_map hk
  subst hx
  obtain ⟨a', vs, n, rfl, ho, hz, rs⟩ := lst_at G ra h
  have hlt := Heap.lt_size ho
  have el : vs.size = ks.length := by have := rs.length; simpa using this
  have val : ∀ (i : Nat) v, vs[i]? = some v → ∃ t, v = .int (ks.getD i 0) t := fun i v hv => by
    refine Exists.elim (rs.get' (i := i) (v := v) (by simpa using hv)) fun y hx => ?_; obtain ⟨h1, h2⟩ := hx
    rw [List.getElem?_map, Option.map_eq_some_iff] at h1
    obtain ⟨k, h1, rfl⟩ := h1
    obtain ⟨_, rfl⟩ := h2.int_i
    exact ⟨_, by rw [List.getD_eq_getElem?_getD, h1]; rfl⟩
  refine Gives.grown G (call_max_walk (wpAny_pyIter_list (isList_of ho) ⟨_, [s.heap.objs.size, a'], [s.heap.objs.size], vs.size, fun i v => vs[i]? = some v, fun i h => h.IsListIter s.heap.objs.size a' i ∧ h.IsList a' vs, _, rfl, Walks.list (A := C.A.in1) R.hh _ a' (Nat.ne_of_lt hlt) vs, ?_, ?_, (el ▸ hn), CmpOf.ints_gt (fun i => ks.getD i 0) val, fun v h' tk hP k => ?_⟩))
  · exact ⟨⟨_, Heap.get?_push_size _ rfl, rfl, rfl⟩, (isList_of ho).push _⟩
  · intro b hb
    simp only [List.mem_cons, List.not_mem_nil, or_false] at hb
    have := Heap.size_push s.heap { cls := .type "list_iterator", data := .fields #[.ref a', .int 0 0] }
    rcases hb with rfl | rfl
    · skip; simp only [Heap.size_push]; exact Nat.lt_succ_self _
    · skip; simp only [Heap.size_push]; exact Nat.lt_succ_of_lt hlt
  · refine Exists.elim (val _ _ hP) fun t hx => ?_; obtain rfl := hx
    refine ⟨⟨h', tk, rfl, fun b o e => k b o (by simp; exact Nat.ne_of_lt (Heap.lt_size e)) (Heap.get?_push_of_some _ e)⟩, fun h'' _ _ => ?_⟩
    exact el ▸ (.int _ _)
theorem ints_reals {h : Heap} {D : Addr → Prop} {ks : List Int} {vs : List Value} (r : Reals h D vs (ks.map .int)) : IntsAre vs ks := by
  induction ks generalizing vs with
  | nil => exact r.nil_i ▸ .nil
  | cons k ks ih =>
    obtain ⟨v, ws, rfl, a, b⟩ := r.cons_i
    refine Exists.elim a.int_i fun t hx => ?_; obtain rfl := hx
    exact .cons _ _ (ih b)
theorem reals_ints {h : Heap} {D : Addr → Prop} {ks : List Int} {vs : List Value} (r : IntsAre vs ks) : Reals h D vs (ks.map .int) := by
  induction r with
  | nil => exact .nil
  | cons n t _ ih => exact .cons (.int n t) ih
theorem K_pairs {vs : List Value} {ks : List Int} (hI : IntsAre vs ks) {i : Nat} {k : Int} (h : ks[i]? = some k) : K (pairsOf vs) i = k := by
  rw [← hI.nums, List.getElem?_map, Option.map_eq_some_iff] at h
  obtain ⟨v, hv, rfl⟩ := h
  unfold K
  have : (pairsOf vs)[i]? = some (v, v) := by
    rw [← Array.getElem?_toList, pairsOf_toList, List.getElem?_zip_eq_some]; exact ⟨hv, hv⟩
  rw [this]
theorem g_sorted (R : Rm C) (G : Good C σ ls s) {xs : List V} {ks r : List Int} (ra : Real s.heap (C.D σ) a x) (h : lstOf σ x = some xs) (hk : ints? xs = some ks) (hs : sortV ks = some r) : Gives C ls (call (.builtin "sorted") [a]) (.lst (r.map .int)) σ s := by
  have hx := ints?_map hk
  subst hx
  obtain ⟨a', vs, n, rfl, ho, hz, rs⟩ := lst_at G ra h
  have hI := ints_reals rs
  obtain ⟨m, asc, rfl, rfl, hasc, hm⟩ : ∃ m asc, ks = asc ++ [m] ∧ r = m :: asc ∧ asc.Pairwise (· < ·) ∧ ∀ x ∈ asc, m < x := by
    unfold sortV at hs
    split at hs
    · rename_i m r' e
      split at hs
      · rename_i q
        refine ⟨m, r'.reverse, ?_, (Option.some.inj hs).symm, q.1, fun x hx => q.2 x (List.mem_reverse.mp hx)⟩
        have := congrArg List.reverse e
        rw [List.reverse_reverse, List.reverse_cons] at this; exact this
      · cases hs
    · cases hs
  have hlen : vs.toList.length = asc.length + 1 := by have := congrArg List.length hI.nums; simpa using this
  have hl : s.heap.IsList a' vs.toList.toArray := isList_of ho
  have fin : ∀ out : Array Value, out.size ≤ 2 ^ 24 → IntsAre out.toList (m :: asc) → (∃ h' tk, ({ s with heap := sortedAll s.heap vs.toList out } : Shared) = { s with heap := h', toks := tk } ∧ (∀ b o, s.heap.get? b = some o → h'.get? b = some o)) ∧ ∀ h' : Heap, (∀ b o, s.heap.get? b = some o → h'.get? b = some o) → sortedAll s.heap vs.toList out = h' → Real h' (C.D σ) (.ref (s.heap.objs.size + 1)) (.lst ((m :: asc).map .int)) := fun out hz' hi => by
    refine ⟨⟨_, s.toks, rfl, fun b o e => sortedAll_old e⟩, fun h' _ e => ?_⟩
    subst e
    obtain ⟨e', he⟩ := sortedAll_at s.heap vs.toList out
    exact .lst he hz' (G.noD (Nat.le_succ _)) (reals_ints hi)
  by_cases q : vs.toList.length < 64
  · refine Gives.grown G (sorted_ints hl hI q fun out ns' h1 h2 h3 => ?_)
    have e : ns' = m :: asc := by
      refine List.Perm.eq_of_pairwise (le := fun a b : Int => a ≤ b) (fun a b _ _ h1 h2 => Int.le_antisymm h1 h2) h3 ?_ (h2.trans ?_)
      · exact List.pairwise_cons.mpr ⟨fun x hx => Int.le_of_lt (hm x hx), hasc.imp fun h => Int.le_of_lt h⟩
      · exact List.perm_append_comm
    subst e
    refine fin out ?_ h1
    have := congrArg List.length h1.nums
    have h4 : out.size = asc.length + 1 := by simpa using this
    simp at hlen; (first | lia | omega)
  · have key : ∀ i, i < asc.length → K (pairsOf vs.toList) i = asc.getD i 0 := fun i hi => K_pairs hI (by rw [List.getElem?_append_left hi, List.getElem?_eq_getElem hi, List.getD_eq_getElem?_getD, List.getElem?_eq_getElem hi]; rfl)
    have keyl : K (pairsOf vs.toList) asc.length = m := K_pairs hI (by rw [List.getElem?_append_right (Nat.le_refl _), Nat.sub_self]; rfl)
    have el : vs.toList.length - 1 = asc.length := by (first | lia | omega)
    refine Gives.grown G (sorted_last hl hI (by simpa using hz) (by (first | lia | omega)) ?_ ?_ ?_)
    · intro i j hij hj
      rw [el] at hj
      rw [key i (by (first | lia | omega)), key j hj]
      have := List.pairwise_iff_getElem.mp hasc i j (by (first | lia | omega)) hj hij
      rw [List.getD_eq_getElem?_getD, List.getD_eq_getElem?_getD, List.getElem?_eq_getElem hj, List.getElem?_eq_getElem (by (first | lia | omega))]
      exact this
    · intro i hi
      rw [el] at hi ⊢
      rw [key i hi, keyl, List.getD_eq_getElem?_getD, List.getElem?_eq_getElem hi]
      exact hm _ (List.getElem_mem hi)
    · intro out eo
      have hd : (vs.toList.drop (vs.toList.length - 1) ++ vs.toList.take (vs.toList.length - 1)).map PyProof.Rows.numOf = m :: asc := by
        rw [List.map_append, List.map_drop, List.map_take, hI.nums, el, List.drop_left, List.take_left]; rfl
      refine fin _ ?_ ?_
      · rw [← Array.length_toList, eo, len_move]; exact hz
      · rw [eo, ← hd]
        refine intsAre_map _ fun v hv => hI.all v ?_
        rcases List.mem_append.mp hv with hv | hv
        · exact List.mem_of_mem_drop hv
        · exact List.mem_of_mem_take hv
end
end Mine
end

section

open PySem PyProof.Rows
namespace Mine

/-! what an operation is in the model -/
noncomputable def binTok : Op → Option Operator
  | .add => some .Add
  | .sub => some .Sub
  | .mul => some .Mult
  | .div => some .FloorDiv
  | .mod => some .Mod
  | .pow => some .Pow
  | _ => none
noncomputable def cmpTok : Op → Option CmpOp
  | .eq => some .Eq
  | .ne => some .NotEq
  | .lt => some .Lt
  | .le => some .LtE
  | .gt => some .Gt
  | .ge => some .GtE
  | .isIn => some .In
  | .notIn => some .NotIn
  | .is => some .Is
  | .isNot => some .IsNot
  | _ => none
/-- built-in functions and types: the name, and the value it stands for -/
noncomputable def callTok : Op → Option (String × Value)
  | .len => some ("len", .builtin "len")
  | .all => some ("all", .builtin "all")
  | .max2 => some ("max", .builtin "max")
  | .maxL => some ("max", .builtin "max")
  | .min2 => some ("min", .builtin "min")
  | .sorted => some ("sorted", .builtin "sorted")
  | .list => some ("list", .type "list")
  | .tuple => some ("tuple", .type "tuple")
  | .dict => some ("dict", .type "dict")
  | .dictF => some ("dict", .type "dict")
  | .int => some ("int", .type "int")
  | .str => some ("str", .type "str")
  | _ => none
noncomputable def methTok : Op → Option (String × String × String)
  | .append => some ("append", "list", "list.append")
  | .extend => some ("extend", "list", "list.extend")
  | .popD => some ("pop", "dict", "dict.pop")
  | _ => none

/-- the tree; u, v: the expressions of a subscript -/
noncomputable def opT (u v : Expr) (o : Op) (vs : List Value) : Sem Value :=
  match binTok o, vs with
  | some t, [a, b] => binaryOp t a b
  | _, _ => match cmpTok o, vs with
    | some t, [a, b] => compareOp t a b
    | _, _ => match callTok o with
      | some (_, f) => call f vs
      | none => match methTok o with
        | some (_, _, id) => call (.builtin id) vs
        | none => match o, vs with
          | .neg, [a] => unaryOp .USub a
          | .isinst t, [a] => call (.builtin "isinstance") [a, .type t]
          | .item, [a, b] => subscriptTail u v a b
          | .slice true true, [a, l, h] => newFields "slice" [l, h, .none] >>= fun i => subscriptTail u v a i
          | .slice true false, [a, l] => newFields "slice" [l, .none, .none] >>= fun i => subscriptTail u v a i
          | .slice false true, [a, h] => newFields "slice" [.none, h, .none] >>= fun i => subscriptTail u v a i
          | .rev, [a, st] => newFields "slice" [.none, .none, st] >>= fun i => subscriptTail u v a i
          | .mkTup, vs => newTuple vs
          | .mkList, vs => newList vs
          | .mkListM, vs => newList vs
          | _, _ => unsupported "none"

section
variable {C : Cx} {ls : Ls} {σ : View} {s : Shared} {Q : Post}

inductive R1 (h : Heap) (D : Addr → Prop) (x : V) (vs : List Value) : Prop
  | mk (v : Value) : vs = [v] → Real h D v x → R1 h D x vs
inductive R2 (h : Heap) (D : Addr → Prop) (x y : V) (vs : List Value) : Prop
  | mk (v w : Value) : vs = [v, w] → Real h D v x → Real h D w y → R2 h D x y vs
inductive R3 (h : Heap) (D : Addr → Prop) (x y z : V) (vs : List Value) : Prop
  | mk (v w u : Value) : vs = [v, w, u] → Real h D v x → Real h D w y → Real h D u z → R3 h D x y z vs
theorem Reals.one {h : Heap} {D : Addr → Prop} {vs : List Value} {x : V} (r : Reals h D vs [x]) : R1 h D x vs := by
  cases r with | cons r1 r2 => obtain rfl := r2.nil_i; exact ⟨_, rfl, r1⟩
theorem Reals.two {h : Heap} {D : Addr → Prop} {vs : List Value} {x y : V} (r : Reals h D vs [x, y]) : R2 h D x y vs := by
  cases r with | cons r1 r2 => obtain ⟨w, rfl, r3⟩ := r2.one; exact ⟨_, _, rfl, r1, r3⟩
theorem Reals.three {h : Heap} {D : Addr → Prop} {vs : List Value} {x y z : V} (r : Reals h D vs [x, y, z]) : R3 h D x y z vs := by
  cases r with | cons r1 r2 => obtain ⟨w, u, rfl, r3, r4⟩ := r2.two; exact ⟨_, _, _, rfl, r1, r3, r4⟩

theorem ord_two {f : Int → Int → Bool} {g : Str → Str → Bool} {xs : List V} {d : V} (h : ordV f g xs = some d) : ∃ x y, xs = [x, y] := by
  refine Exists.elim (on2_some h) fun x hx => ?_; obtain ⟨y, hq0⟩ := hx; exact ⟨x, y, hq0.1⟩
theorem cmp_no_bin {o : Op} (h : (cmpTok o).isSome = true) : binTok o = none := by cases o <;> first | rfl | exact ff h
theorem call_no_bin {o : Op} (h : (callTok o).isSome = true) : binTok o = none := by cases o <;> first | rfl | exact ff h
theorem call_no_cmp {o : Op} (h : (callTok o).isSome = true) : cmpTok o = none := by cases o <;> first | rfl | exact ff h
theorem meth_no_bin {o : Op} (h : (methTok o).isSome = true) : binTok o = none := by cases o <;> first | rfl | exact ff h
theorem meth_no_cmp {o : Op} (h : (methTok o).isSome = true) : cmpTok o = none := by cases o <;> first | rfl | exact ff h
theorem meth_no_call {o : Op} (h : (methTok o).isSome = true) : callTok o = none := by cases o <;> first | rfl | exact ff h
theorem opT_bin {u v : Expr} {o : Op} {t : Operator} {a b : Value} (h : binTok o = some t) : opT u v o [a, b] = binaryOp t a b := by unfold opT; rw [h]
theorem opT_cmp {u v : Expr} {o : Op} {t : CmpOp} {a b : Value} (h : cmpTok o = some t) : opT u v o [a, b] = compareOp t a b := by unfold opT; rw [cmp_no_bin (by rw [h]; rfl), h]
theorem opT_call {u v : Expr} {o : Op} {n : String} {f : Value} {vs : List Value} (h : callTok o = some (n, f)) : opT u v o vs = call f vs := by unfold opT; rw [call_no_bin (by rw [h]; rfl), call_no_cmp (by rw [h]; rfl), h]
theorem opT_meth {u v : Expr} {o : Op} {n t id : String} {vs : List Value} (h : methTok o = some (n, t, id)) : opT u v o vs = call (.builtin id) vs := by unfold opT; rw [meth_no_bin (by rw [h]; rfl), meth_no_cmp (by rw [h]; rfl), meth_no_call (by rw [h]; rfl), h]
section
variable {h : Heap} {D : Addr → Prop} {vs : List Value} {xs : List V} {d : V} {p : List Value → Prop}
theorem use1 {f : V → Option V} (rs : Reals h D vs xs) (hd : on1 f xs = some d) (k : ∀ x a, f x = some d → Real h D a x → p [a]) : p vs := by
  refine Exists.elim (on1_some hd) fun x hx => ?_; obtain ⟨rfl, hd⟩ := hx; obtain ⟨a, rfl, ra⟩ := rs.one; exact k x a (by assumption) ra
theorem use2 {f : V → V → Option V} (rs : Reals h D vs xs) (hd : on2 f xs = some d) (k : ∀ x y a b, f x y = some d → Real h D a x → Real h D b y → p [a, b]) : p vs := by
  refine Exists.elim (on2_some hd) fun x hx => ?_; obtain ⟨y, rfl, hd⟩ := hx; obtain ⟨a, b, rfl, ra, rb⟩ := rs.two; exact k x y a b (by assumption) ra rb
theorem use3 {f : V → V → V → Option V} (rs : Reals h D vs xs) (hd : on3 f xs = some d) (k : ∀ x y z a b c, f x y z = some d → Real h D a x → Real h D b y → Real h D c z → p [a, b, c]) : p vs := by
  refine Exists.elim (on3_some hd) fun x hx => ?_; obtain ⟨y, z, rfl, hd⟩ := hx; obtain ⟨a, b, c, rfl, ra, rb, rc⟩ := rs.three; exact k x y z a b c (by assumption) ra rb rc
theorem useI2 {f : Int → Int → Option V} (rs : Reals h D vs xs) (hd : on2 (int2 f) xs = some d) (k : ∀ m n a b, f m n = some d → Real h D a (.int m) → Real h D b (.int n) → p [a, b]) : p vs :=
  use2 rs hd fun x y a b e ra rb => by
    refine Exists.elim (int2_some e) fun m hx => ?_; obtain ⟨n, rfl, rfl, e⟩ := hx; exact k m n a b e ra rb
theorem useI1 {f : Int → Option V} (rs : Reals h D vs xs) (hd : on1 (int1 f) xs = some d) (k : ∀ m a, f m = some d → Real h D a (.int m) → p [a]) : p vs :=
  use1 rs hd fun x a e ra => by
    refine Exists.elim (int1_some e) fun m hx => ?_; obtain ⟨rfl, e⟩ := hx; exact k m a e ra
theorem useM1 {α : Type} {g : V → Option α} {w : α → V} (rs : Reals h D vs xs) (hd : on1 (fun x => (g x).map w) xs = some d) (k : ∀ x a r, g x = some r → Real h D a x → d = w r → p [a]) : p vs :=
  use1 rs hd fun x a e ra => by
    obtain ⟨r, hq0⟩ := Option.map_eq_some_iff.mp e; exact k x a r hq0.1 ra hq0.2.symm
theorem useM2 {α : Type} {g : V → V → Option α} {w : α → V} (rs : Reals h D vs xs) (hd : on2 (fun x y => (g x y).map w) xs = some d) (k : ∀ x y a b r, g x y = some r → Real h D a x → Real h D b y → d = w r → p [a, b]) : p vs :=
  use2 rs hd fun x y a b e ra rb => by
    obtain ⟨r, hq0⟩ := Option.map_eq_some_iff.mp e; exact k x y a b r hq0.1 ra rb hq0.2.symm
end
theorem revV_inv {x y d : V} (e : revV x y = some d) : ∃ ys, x = .tup ys ∧ y = .int (-1) ∧ d = .tup ys.reverse := by
  unfold revV at e
  split at e
  · obtain ⟨rfl, rfl⟩ := ite_some e; exact ⟨_, rfl, rfl, rfl⟩
  · exact nn e
theorem pure_sound (R : Rm C) (G : Good C σ ls s) (u v : Expr) {o : Op} {vs : List Value} {xs : List V} {d : V} (rs : Reals s.heap (C.D σ) vs xs) (hd : pureOp o σ xs = some d) (ht : ∀ t, o = .isinst t → t ∈ types) : Gives C ls (opT u v o vs) d σ s := by
  cases o with
  | add => exact use2 (p := fun vs => Gives C ls (opT u v .add vs) d σ s) rs hd fun x y a b e ra rb => g_add G ra rb e
  | sub => exact useI2 (p := fun vs => Gives C ls (opT u v .sub vs) d σ s) rs hd fun m n a b e ra rb => by cases e; exact g_sub G ra rb
  | mul => exact use2 (p := fun vs => Gives C ls (opT u v .mul vs) d σ s) rs hd fun x y a b e ra rb => g_mul G ra rb e
  | div => exact useI2 (p := fun vs => Gives C ls (opT u v .div vs) d σ s) rs hd fun m n a b e ra rb => by obtain ⟨hh, rfl⟩ := ite_some e; exact g_div G ra rb hh.1 hh.2
  | mod => exact useI2 (p := fun vs => Gives C ls (opT u v .mod vs) d σ s) rs hd fun m n a b e ra rb => by obtain ⟨hh, rfl⟩ := ite_some e; exact g_mod G ra rb hh
  | pow => exact useI2 (p := fun vs => Gives C ls (opT u v .pow vs) d σ s) rs hd fun m n a b e ra rb => by obtain ⟨hh, rfl⟩ := ite_some e; exact g_pow G ra rb hh.1 hh.2.1 hh.2.2.1 hh.2.2.2
  | neg => exact useI1 (p := fun vs => Gives C ls (opT u v .neg vs) d σ s) rs hd fun m a e ra => by cases e; exact g_neg G ra
  | eq => exact useM2 (p := fun vs => Gives C ls (opT u v .eq vs) d σ s) rs hd fun x y a b r hr ra rb e => by subst e; exact (g_eqB R G ra rb hr).1
  | ne => exact useM2 (p := fun vs => Gives C ls (opT u v .ne vs) d σ s) rs hd fun x y a b r hr ra rb e => by subst e; exact (g_eqB R G ra rb hr).2
  | lt =>
    have hl : ∃ x y, xs = [x, y] := ord_two hd
    obtain ⟨x, y, rfl⟩ := hl
    obtain ⟨a, b, rfl, ra, rb⟩ := rs.two; exact g_lt G ra rb hd
  | le =>
    have hl : ∃ x y, xs = [x, y] := ord_two hd
    obtain ⟨x, y, rfl⟩ := hl
    obtain ⟨a, b, rfl, ra, rb⟩ := rs.two; exact g_le G ra rb hd
  | gt => exact useI2 (p := fun vs => Gives C ls (opT u v .gt vs) d σ s) rs hd fun m n a b e ra rb => by cases e; exact g_gt G ra rb
  | ge => exact useI2 (p := fun vs => Gives C ls (opT u v .ge vs) d σ s) rs hd fun m n a b e ra rb => by cases e; exact g_ge G ra rb
  | isIn => exact useM2 (p := fun vs => Gives C ls (opT u v .isIn vs) d σ s) rs hd fun x y a b r hr ra rb e => by subst e; exact (g_inB R G ra rb hr).1
  | notIn => exact useM2 (p := fun vs => Gives C ls (opT u v .notIn vs) d σ s) rs hd fun x y a b r hr ra rb e => by subst e; exact (g_inB R G ra rb hr).2
  | is => exact useM2 (p := fun vs => Gives C ls (opT u v .is vs) d σ s) rs hd fun x y a b r hr ra rb e => by subst e; exact g_is G ra rb hr
  | isNot => exact useM2 (p := fun vs => Gives C ls (opT u v .isNot vs) d σ s) rs hd fun x y a b r hr ra rb e => by subst e; exact g_isNot G ra rb hr
  | len => exact useM1 (p := fun vs => Gives C ls (opT u v .len vs) d σ s) rs hd fun x a r hr ra e => by subst e; exact g_len R G ra hr
  | isinst t => exact useM1 (p := fun vs => Gives C ls (opT u v (.isinst t) vs) d σ s) rs hd fun x a r hr ra e => by subst e; exact g_isinst G (ht _ rfl) ra hr
  | list => exact useM1 (p := fun vs => Gives C ls (opT u v .list vs) d σ s) rs hd fun x a r hr ra e => by subst e; exact g_list R G ra hr
  | tuple => exact useM1 (p := fun vs => Gives C ls (opT u v .tuple vs) d σ s) rs hd fun x a r hr ra e => by subst e; exact g_tuple G ra hr
  | dictF => exact useM1 (p := fun vs => Gives C ls (opT u v .dictF vs) d σ s) rs hd fun x a r hr ra e => by subst e; exact g_dictF R G ra hr
  | all => exact use1 (p := fun vs => Gives C ls (opT u v .all vs) d σ s) rs hd fun x a e ra => by simp only [Option.bind_eq_some_iff, Option.map_eq_some_iff] at e; obtain ⟨r, hr, bs, hb, rfl⟩ := e; exact g_all R G ra hr hb
  | max2 => exact useI2 (p := fun vs => Gives C ls (opT u v .max2 vs) d σ s) rs hd fun m n a b e ra rb => by cases e; exact g_max2 R G ra rb
  | min2 => exact useI2 (p := fun vs => Gives C ls (opT u v .min2 vs) d σ s) rs hd fun m n a b e ra rb => by cases e; exact g_min2 R G ra rb
  | int => exact use1 (p := fun vs => Gives C ls (opT u v .int vs) d σ s) rs hd fun x a e ra => by refine Exists.elim (bool1_some e) fun m hx => ?_; obtain ⟨rfl, e⟩ := hx; cases e; exact g_int G ra
  | str => exact useI1 (p := fun vs => Gives C ls (opT u v .str vs) d σ s) rs hd fun m a e ra => by obtain ⟨hh, rfl⟩ := ite_some e; exact g_str G ra hh
  | item => exact use2 (p := fun vs => Gives C ls (opT u v .item vs) d σ s) rs hd fun x y a b e ra rb => g_itemT R G ra rb e
  | slice lo hi =>
    cases lo <;> cases hi
    · exact nn hd
    · exact use2 (p := fun vs => Gives C ls (opT u v (.slice false true) vs) d σ s) rs hd fun x y a b e ra rb => by refine Exists.elim (int1_some e) fun k hx => ?_; obtain ⟨rfl, e⟩ := hx; obtain ⟨_, rfl⟩ := rb.int_i; exact g_slice R G (lo := none) (hi := some _) ra .none (.int _ _) e
    · exact use2 (p := fun vs => Gives C ls (opT u v (.slice true false) vs) d σ s) rs hd fun x y a b e ra rb => by refine Exists.elim (int1_some e) fun k hx => ?_; obtain ⟨rfl, e⟩ := hx; obtain ⟨_, rfl⟩ := rb.int_i; exact g_slice R G (lo := some _) (hi := none) ra (.int _ _) .none e
    · exact use3 (p := fun vs => Gives C ls (opT u v (.slice true true) vs) d σ s) rs hd fun x y z a b c e ra rb rc => by refine Exists.elim (int2_some e) fun k hx => ?_; obtain ⟨k', rfl, rfl, e⟩ := hx; obtain ⟨_, rfl⟩ := rb.int_i; obtain ⟨_, rfl⟩ := rc.int_i; exact g_slice R G (lo := some _) (hi := some _) ra (.int _ _) (.int _ _) e
  | maxL => exact use1 (p := fun vs => Gives C ls (opT u v .maxL vs) d σ s) rs hd fun x a e ra => by simp only [Option.bind_eq_some_iff] at e; obtain ⟨r, hr, ks, hq0⟩ := e; obtain ⟨hh, rfl⟩ := ite_some hq0.2; exact g_maxL R G ra hr hq0.1 hh
  | sorted => exact use1 (p := fun vs => Gives C ls (opT u v .sorted vs) d σ s) rs hd fun x a e ra => by simp only [Option.bind_eq_some_iff, Option.map_eq_some_iff] at e; obtain ⟨r, hr, ks, hk, q, hq, rfl⟩ := e; exact g_sorted R G ra hr hk hq
  | rev => exact use2 (p := fun vs => Gives C ls (opT u v .rev vs) d σ s) rs hd fun x y a b e ra rb => by refine Exists.elim (revV_inv e) fun ys hx => ?_; obtain ⟨rfl, rfl, rfl⟩ := hx; exact g_rev R G ra rb
  | mkTup => obtain ⟨hh, rfl⟩ := ite_some hd; exact g_mkTup G rs hh
  | mkList => obtain ⟨hh, rfl⟩ := ite_some hd; exact g_mkList G rs hh
  | _ => exact nn hd
theorem pure_then (R : Rm C) (G : Good C σ ls s) (u v : Expr) {o : Op} {vs : List Value} {xs : List V} (rs : Reals s.heap (C.D σ) vs xs) (h : ∃ d, pureOp o σ xs = some d ∧ Q d σ) (ht : ∀ t, o = .isinst t → t ∈ types) : TrE C ls (opT u v o vs) (RV C Q) σ s := by
  refine Exists.elim h ?_; rintro d hq0
  exact (pure_sound R G u v rs hq0.1 ht).then hq0.2
theorem prim_sound (R : Rm C) (G : Good C σ ls s) (u v : Expr) {o : Op} {vs : List Value} {xs : List V} (rs : Reals s.heap (C.D σ) vs xs) (h : prim o xs Q σ) (ht : ∀ t, o = .isinst t → t ∈ types) : TrE C ls (opT u v o vs) (RV C Q) σ s := by
  cases o with
  | dict =>
    obtain ⟨x, rfl, ys, hq2⟩ := q1_inv h
    obtain ⟨a, rfl, ra⟩ := rs.one; exact g_dict R G ra hq2.1 hq2.2
  | append =>
    obtain ⟨x, y, rfl, h⟩ := q2_inv h
    obtain ⟨r, rfl, ys, hq1⟩ := onR_inv h
    obtain ⟨a, b, rfl, ra, rb⟩ := rs.two; exact g_append G ra rb hq1.1 hq1.2.1 hq1.2.2
  | extend =>
    obtain ⟨x, y, rfl, h⟩ := q2_inv h
    obtain ⟨r, rfl, h⟩ := onR_inv h
    obtain ⟨l, rfl, ys, hy, hl, q⟩ := onL_inv h
    obtain ⟨a, b, rfl, ra, rb⟩ := rs.two; exact g_extend G ra rb hy hl q
  | popD =>
    obtain ⟨x, y, rfl, h⟩ := q2_inv h
    obtain ⟨r, rfl, h⟩ := onR_inv h
    obtain ⟨l, rfl, ys, y, hy, hq0⟩ := onI_inv h
    obtain ⟨a, b, rfl, ra, rb⟩ := rs.two; exact g_popD G (.inl rfl) ra rb hy hq0.1 hq0.2
  | mkListM => exact g_mkListM G rs h.1 h.2
  | _ => exact pure_then R G u v rs h ht
end
end Mine
end

section

open PySem PyProof.Rows
namespace Mine

structure Sc where
  names : List (Str × NameKind)
  vars : List Str
/-- the block's tables -/
structure Sc.Of (S : Sc) (C : Cx) : Prop where
  names : C.env.scope.names = S.names
  vars : C.vars = S.vars

noncomputable def glob (S : Sc) (x : Str) : Bool := S.names.lookup x == some .globalImplicit && !(x == ("__debug__" : Str))
noncomputable def noStar : List Expr → Bool
  | [] => true
  | .Starred _ _ :: _ => false
  | _ :: r => noStar r
noncomputable def notSet : Expr → Bool
  | .Set _ _ _ => false
  | _ => true
theorem notSet_marks {op : CmpOp} {r : Expr} (h : notSet r = true) : behindInMarks op r = false := by
  cases r <;> first | rfl | exact ff h
noncomputable def blts : List String := ["len", "all", "max", "min", "sorted", "list", "tuple", "dict", "int", "str", "bool", "isinstance", "range", "enumerate", "reversed"]
noncomputable def bval : String → Value
  | "list" => .type "list"
  | "tuple" => .type "tuple"
  | "dict" => .type "dict"
  | "int" => .type "int"
  | "str" => .type "str"
  | "bool" => .type "bool"
  | "range" => .type "range"
  | "enumerate" => .type "enumerate"
  | "reversed" => .type "reversed"
  | n => .builtin n
theorem boot_blts : ∀ n ∈ blts, bootBuiltins (Str.ofString n) = some (bval n) ∧ Str.ofString n ≠ ("__name__" : Str) := by decide +kernel
noncomputable def Blt (W : Wd) : Prop := ∀ n ∈ blts, W.mg (Str.ofString n) = none

noncomputable def instT : Op → Option String
  | .isinst t => some t
  | _ => none
theorem instT_inv {o : Op} {t : String} (h : instT o = some t) : o = .isinst t := by
  cases o <;> first | exact nn h | (cases Option.some.inj h; rfl)
noncomputable def instArgs (S : Sc) (f : Str) (t : String) : List Expr → Option (List Expr)
  | [x, .Name y _] => if f = Str.ofString "isinstance" ∧ glob S f = true ∧ y = Str.ofString t ∧ glob S y = true ∧ t ∈ types ∧ noStar [x] = true then some [x] else none
  | _ => none
theorem ite_some' {α : Type} {c : Prop} [Decidable c] {a d : α} (e : (if c then some a else none) = some d) : c ∧ d = a := by
  split at e
  · exact ⟨by assumption, (Option.some.inj e).symm⟩
  · exact nn e
theorem instArgs_inv {S : Sc} {f : Str} {t : String} {args es : List Expr} (h : instArgs S f t args = some es) : ∃ x y py, args = [x, .Name y py] ∧ es = [x] ∧ f = Str.ofString "isinstance" ∧ glob S f = true ∧ y = Str.ofString t ∧ glob S y = true ∧ t ∈ types ∧ noStar [x] = true := by
  match args, h with
  | [], h => exact nn h
  | [x], h => exact nn h
  | [x, y], h =>
    cases y <;> first
      | exact nn h
      | (have hq0 := ite_some' h; exact ⟨_, _, _, rfl, hq0.2, hq0.1⟩)
  | x :: y :: z :: r, h => exact absurd h (by skip; cases y <;> exact fun h => nn h)
noncomputable def shp (S : Sc) (o : Op) (e : Expr) : Option (List Expr) :=
  match e with
  | .BinOp l t r _ => if binTok o = some t then some [l, r] else none
  | .UnaryOp .USub x _ => if o = .neg then some [x] else none
  | .Compare l [t] [r] _ => if cmpTok o = some t ∧ notSet r = true then some [l, r] else none
  | .Call (.Name f _) args [] _ =>
    match callTok o with
    | some (n, _) => if f = Str.ofString n ∧ glob S f = true ∧ noStar args = true ∧ args.isEmpty = false then some args else none
    | none => match instT o with
      | some t => instArgs S f t args
      | none => none
  | .Subscript value slice _ => match slice with
    | .Slice (some l) (some h) none _ => if o = .slice true true then some [value, l, h] else none
    | .Slice (some l) none none _ => if o = .slice true false then some [value, l] else none
    | .Slice none (some h) none _ => if o = .slice false true then some [value, h] else none
    | .Slice none none (some st) _ => if o = .rev then some [value, st] else none
    | .Slice _ _ _ _ => none
    | slice => if o = .item then some [value, slice] else none
  | .Tuple elts _ _ => if o = .mkTup ∧ noStar elts = true then some elts else none
  | .List elts _ => if (o = .mkList ∨ o = .mkListM) ∧ noStar elts = true then some elts else none
  | _ => none

/-- the shapes -/
inductive ShpI (S : Sc) (o : Op) : Expr → List Expr → Prop
  | bin (l : Expr) (t : Operator) (r : Expr) (p : Pos) (h : binTok o = some t) : ShpI S o (.BinOp l t r p) [l, r]
  | neg (x : Expr) (p : Pos) (h : o = .neg) : ShpI S o (.UnaryOp .USub x p) [x]
  | cmp (l : Expr) (t : CmpOp) (r : Expr) (p : Pos) (h : cmpTok o = some t) (hs : notSet r = true) : ShpI S o (.Compare l [t] [r] p) [l, r]
  | inst (f : Str) (p : Pos) (t : String) (x : Expr) (y : Str) (py pos : Pos) (ho : o = .isinst t) (h : f = Str.ofString "isinstance" ∧ glob S f = true ∧ y = Str.ofString t ∧ glob S y = true ∧ t ∈ types ∧ noStar [x] = true) : ShpI S o (.Call (.Name f p) [x, .Name y py] [] pos) [x]
  | call (f : Str) (p : Pos) (args : List Expr) (pos : Pos) (n : String) (v : Value) (hc : callTok o = some (n, v)) (h : f = Str.ofString n ∧ glob S f = true ∧ noStar args = true ∧ args.isEmpty = false) : ShpI S o (.Call (.Name f p) args [] pos) args
  | sl11 (value l h : Expr) (p pos : Pos) (ho : o = .slice true true) : ShpI S o (.Subscript value (.Slice (some l) (some h) none p) pos) [value, l, h]
  | sl10 (value l : Expr) (p pos : Pos) (ho : o = .slice true false) : ShpI S o (.Subscript value (.Slice (some l) none none p) pos) [value, l]
  | sl01 (value h : Expr) (p pos : Pos) (ho : o = .slice false true) : ShpI S o (.Subscript value (.Slice none (some h) none p) pos) [value, h]
  | rev (value st : Expr) (p pos : Pos) (ho : o = .rev) : ShpI S o (.Subscript value (.Slice none none (some st) p) pos) [value, st]
  | item (value slice : Expr) (pos : Pos) (ho : o = .item) : ShpI S o (.Subscript value slice pos) [value, slice]
  | tup (elts : List Expr) (k : Nat) (pos : Pos) (ho : o = .mkTup) (hs : noStar elts = true) : ShpI S o (.Tuple elts k pos) elts
  | lst (elts : List Expr) (pos : Pos) (ho : o = .mkList ∨ o = .mkListM) (hs : noStar elts = true) : ShpI S o (.List elts pos) elts
theorem shp_inv {S : Sc} {o : Op} {e : Expr} {es : List Expr} (h : shp S o e = some es) : ShpI S o e es := by
  have no : ∀ {P : Prop}, (none : Option (List Expr)) = some es → P := fun h => (nn h)
  cases e with
  | BinOp l t r p => obtain ⟨h1, rfl⟩ := ite_some' (show (if binTok o = some t then some [l, r] else none) = some es from h); exact .bin l t r p h1
  | UnaryOp u x p =>
    cases u with
    | USub => obtain ⟨h1, rfl⟩ := ite_some' (show (if o = .neg then some [x] else none) = some es from h); exact .neg x p h1
    | _ => exact no h
  | Compare l ts rs p =>
    cases ts with
    | nil => exact no h
    | cons t ts =>
      cases ts with
      | cons _ _ => exact no h
      | nil =>
        cases rs with
        | nil => exact no h
        | cons r rs =>
          cases rs with
          | cons _ _ => exact no h
          | nil => obtain ⟨h1, rfl⟩ := ite_some' (show (if cmpTok o = some t ∧ notSet r = true then some [l, r] else none) = some es from h); exact .cmp l t r p h1.1 h1.2
  | Call f args kw pos =>
    cases f with
    | Name f p =>
      cases kw with
      | cons _ _ => exact no h
      | nil =>
        have h : (match callTok o with
            | some (n, _) => if f = Str.ofString n ∧ glob S f = true ∧ noStar args = true ∧ args.isEmpty = false then some args else none
            | none => match instT o with
              | some t => instArgs S f t args
              | none => none) = some es := h
        cases hc : callTok o with
        | some nv =>
          replace h := hc ▸ h
          obtain ⟨h1, rfl⟩ := ite_some' h
          exact .call f p es pos nv.1 nv.2 hc h1
        | none =>
          replace h := hc ▸ h
          cases hi : instT o with
          | none => simp only [hi] at h; exact no h
          | some t =>
            simp only [hi] at h
            refine Exists.elim (instArgs_inv h) fun x hx => ?_; obtain ⟨y, py, rfl, rfl, h2⟩ := hx
            exact .inst f p t x y py pos (instT_inv hi) h2
    | _ => exact no h
  | Subscript value slice pos =>
    cases slice with
    | Slice a b c p =>
      cases a <;> cases b <;> cases c <;> first
        | exact no h
        | (obtain ⟨h1, rfl⟩ := ite_some' h; first | exact .sl11 _ _ _ _ _ h1 | exact .sl10 _ _ _ _ h1 | exact .sl01 _ _ _ _ h1 | exact .rev _ _ _ _ h1)
    | _ => obtain ⟨h1, rfl⟩ := ite_some' h; exact .item _ _ _ h1
  | Tuple elts k pos => obtain ⟨h1, rfl⟩ := ite_some' h; exact .tup _ _ _ h1.1 h1.2
  | List elts pos => obtain ⟨h1, rfl⟩ := ite_some' h; exact .lst _ _ h1.1 h1.2
  | _ => exact no h

/-- expressions one after the other -/
noncomputable def Ev (C : Cx) (ls : Ls) : List Expr → (List Value → View → Shared → Prop) → View → Shared → Prop
  | [], K => fun σ s => K [] σ s
  | e :: es, K => fun σ s => TrE C ls (eval e C.env) (fun v σ' s' => Ev C ls es (fun vs => K (v :: vs)) σ' s') σ s

section
variable {C : Cx} {ls : Ls} {σ : View} {s : Shared} {S : Sc}

theorem starEach_cons {env : Env} {e : Expr} {r : List Expr} (h : noStar (e :: r) = true) : starEach (e :: r) env = (false, eval e env) :: starEach r env ∧ noStar r = true := by
  cases e <;> first | exact ⟨rfl, h⟩ | exact ff h
theorem starEach_noStar {env : Env} {es : List Expr} (h : noStar es = true) : starEach es env = es.map fun e => (false, eval e env) := by
  induction es with
  | nil => rfl
  | cons e r ih => have hq0 := starEach_cons (env := env) h; simp only [hq0.1, ih hq0.2, List.map_cons]
theorem backTo_noStar {pos : Pos} {env : Env} (es : List Expr) : backTo pos (es.map fun e => (false, eval e env)) = es.map fun e => (false, eval e env) := by
  dsimp only [backTo]; simp

theorem spliced_ev : ∀ {es : List Expr} {K : List Value → View → Shared → Prop} {σ : View} {s : Shared}, Good C σ ls s → Ev C ls es K σ s → TrE C ls (spliced (es.map fun e => (false, eval e C.env))) K σ s
  | [], K, σ, s, G, h => by rw [List.map_nil, spliced]; exact TrE.pure G h
  | e :: es, K, σ, s, G, h => by
    rw [List.map_cons]
    refine PySem.Calls.spliced_cons (wpAny_mono h (fun v s₁ ⟨σ₁, G₁, S₁, h₁⟩ => ?_) fun _ _ x => x)
    exact wpAny_mono (spliced_ev G₁ h₁) (fun vs s₂ ⟨σ₂, G₂, S₂, h₂⟩ => ⟨σ₂, G₂, S₁.trans S₂, h₂⟩) fun _ _ x => x

theorem kindOf_eq (h : S.Of C) (x : Str) : C.env.kindOf x = S.names.lookup x := by unfold Env.kindOf; rw [h.names]
theorem load_global {x : Str} {pos : Pos} {v : Value} {Q : Value → Shared → Prop} (hS : S.Of C) (hg : glob S x = true) (G : Good C σ ls s) (W : C.W.Ok) (hv : C.W.mg x = some v) (h : Q v s) :
    wpAny (model C.W.prog C.W.w) C.A (eval (.Name x pos) C.env) Q (fun _ _ => False) s := by
  unfold glob at hg
  simp only [Bool.and_eq_true, beq_iff_eq, Bool.not_eq_true'] at hg
  refine PySem.Calls.Name_function_global G.fr.kind (by rw [kindOf_eq hS]; exact hg.1) ?_ hg.2
  exact PySem.Calls.loadGlobal_global (mg := C.W.mg) ((G.fr.glob ▸ (W.top.g.keeps G.stays))) hv h
theorem load_blt {n : String} {pos : Pos} {Q : Value → Shared → Prop} (hS : S.Of C) (hg : glob S (Str.ofString n) = true) (hn : n ∈ blts) (G : Good C σ ls s) (W : C.W.Ok) (B : Blt C.W) (h : Q (bval n) s) :
    wpAny (model C.W.prog C.W.w) C.A (eval (.Name (Str.ofString n) pos) C.env) Q (fun _ _ => False) s := by
  unfold glob at hg
  simp only [Bool.and_eq_true, beq_iff_eq, Bool.not_eq_true'] at hg
  refine PySem.Calls.Name_function_global G.fr.kind (by rw [kindOf_eq hS]; exact hg.1) ?_ hg.2
  have hq0 := boot_blts n hn
  exact PySem.Calls.loadGlobal_builtin (mg := C.W.mg) (mb := C.W.mb) (by rw [G.fr.glob]; exact W.top.g.keeps G.stays) (B n hn) (by rw [G.fr.blt]; exact W.top.b.keeps G.stays) (((W.top.builtins _ hq0.2) ▸ hq0.1)) h

theorem callTok_val {o : Op} {n : String} {f : Value} (h : callTok o = some (n, f)) : n ∈ blts ∧ bval n = f := by
  cases o <;> first
    | exact nn h
    | (obtain ⟨h1, h2⟩ := Prod.mk.inj (Option.some.inj h); subst h1; subst h2; exact ⟨by decide, rfl⟩)
theorem callTok_kind {o : Op} {n : String} {f : Value} (h : callTok o = some (n, f)) : (∃ id, f = .builtin id) ∨ ∃ T, f = .type T := by
  cases o <;> first
    | exact nn h
    | (obtain ⟨h1, h2⟩ := Prod.mk.inj (Option.some.inj h); subst h2; first | exact .inl ⟨_, rfl⟩ | exact .inr ⟨_, rfl⟩)
theorem callWith_args {pos : Pos} {f : Value} {args : List Expr} {Q : Value → View → Shared → Prop} (hk : (∃ id, f = .builtin id) ∨ ∃ T, f = .type T) (hn : args.isEmpty = false) (G : Good C σ ls s)
    (h : Ev C ls args (fun vs σ' s' => TrE C ls (call f vs) Q σ' s') σ s) : TrE C ls (callWith pos f [] (args.map fun e => (false, eval e C.env)) []) Q σ s := by
  have hs := spliced_ev G h
  have hsp : wpAny (model C.W.prog C.W.w) C.A (spliced (args.map fun e => (false, eval e C.env))) (fun vs s₁ => wpAny (model C.W.prog C.W.w) C.A (call f ([] ++ vs)) (EOut C ls Q s.heap σ) (fun _ _ => False) s₁) (fun _ _ => False) s :=
    wpAny_mono hs (fun vs s₁ hx => by obtain ⟨σ₁, G₁, S₁, h₁⟩ := hx; exact wpAny_mono h₁ (fun v s₂ hx => by obtain ⟨σ₂, G₂, S₂, q⟩ := hx; exact ⟨σ₂, G₂, S₁.trans S₂, q⟩) fun _ _ x => x) fun _ _ x => x
  have hp : (args.map fun e => ((false : Bool), eval e C.env)).any (·.1) = false := by simp
  cases args with
  | nil => exact ff2 hn
  | cons e es =>
    have hev : wpAny (model C.W.prog C.W.w) C.A (evalArgs f true ((e :: es).map fun e => ((false : Bool), eval e C.env)) []) (fun a s₁ => wpAny (model C.W.prog C.W.w) C.A (call f ([] ++ a.pos) a.kw) (EOut C ls Q s.heap σ) (fun _ _ => False) s₁) (fun _ _ => False) s :=
      PySem.Calls.evalArgs_plain hsp
    rcases hk with ⟨id, rfl⟩ | ⟨T, rfl⟩
    · exact PySem.Calls.callWith_builtin hp hev
    · exact PyProof.Rows.callWith_type hp hev
end
end Mine
end

section

open PySem PyProof.Rows
namespace Mine
section
variable {C : Cx} {ls : Ls} {σ : View} {s : Shared} {S : Sc}

theorem Ev.mono : ∀ {es : List Expr} {K K' : List Value → View → Shared → Prop} {σ : View} {s : Shared}, Ev C ls es K σ s → (∀ vs σ' s', K vs σ' s' → K' vs σ' s') → Ev C ls es K' σ s
  | [], _, _, _, _, h, k => k _ _ _ h
  | _ :: _, _, _, _, _, h, k => TrE.mono h fun _ _ _ _ _ h' => Ev.mono h' fun _ _ _ h'' => k _ _ _ h''
theorem tr_call {f : Str} {p pos : Pos} {args : List Expr} {v : Value} {Q : Value → View → Shared → Prop} (hst : noStar args = true)
    (hf : ∀ Q' : Value → Shared → Prop, Q' v s → wpAny (model C.W.prog C.W.w) C.A (eval (.Name f p) C.env) Q' (fun _ _ => False) s)
    (h : TrE C ls (callWith pos v [] (args.map fun e => (false, eval e C.env)) []) Q σ s) : TrE C ls (eval (.Call (.Name f p) args [] pos) C.env) Q σ s := by
  have e : eval (.Call (.Name f p) args [] pos) C.env = (do callWith pos (← eval (.Name f p) C.env) [] (backTo pos (starEach args C.env)) (backToKw pos (keywordEach [] C.env))) := rfl
  skip
  simp only [e, starEach_noStar hst, backTo_noStar]
  exact wpAny_bind (hf _ h)

theorem unnew {M : Model} {A : Around} {α : Type} {x y z : Value} {f : Value → Sem α} {Q : α → Shared → Prop} {E : Value → Shared → Prop} {s : Shared} (h : wpAny M A (newFields "slice" [x, y, z] >>= f) Q E s) :
    wpAny M A (f (.ref s.heap.objs.size)) Q E { s with heap := s.heap.push { cls := .type "slice", dict := none, data := .fields #[x, y, z] } } := fun Γ p hΓ => by
  have h1 := h Γ p hΓ
  skip
  exact h1
theorem inst_noStar {x : Expr} {y : Str} {py : Pos} (h : noStar [x] = true) : noStar [x, .Name y py] = true := by
  cases x <;> first | rfl | exact ff h
theorem types_blts {t : String} (h : t ∈ types) : t ∈ blts := by
  simp only [types, List.mem_cons, List.not_mem_nil, or_false] at h
  rcases h with rfl | rfl | rfl | rfl <;> decide
theorem types_bval {t : String} (h : t ∈ types) : bval t = .type t := by
  simp only [types, List.mem_cons, List.not_mem_nil, or_false] at h
  rcases h with rfl | rfl | rfl | rfl <;> rfl
theorem shp_sound (R : Rm C) (B : Blt C.W) (hS : S.Of C) {o : Op} {e : Expr} {es : List Expr} {Q : Value → View → Shared → Prop} (h : shp S o e = some es) (G : Good C σ ls s)
    (hv : Ev C ls es (fun vs σ' s' => ∀ u v, TrE C ls (opT u v o vs) Q σ' s') σ s) : TrE C ls (eval e C.env) Q σ s := by
  cases shp_inv h with
  | bin l t r pos ht =>
    skip
    refine TrE.bind (TrE.mono hv fun a σ₁ s₁ G₁ _ h₁ => TrE.bind (TrE.holding (TrE.mono h₁ fun b σ₂ s₂ G₂ _ h₂ => TrE.bind (TrE.standAt G₂ (TrE.operate ?_)))))
    have := h₂ default default
    rw [opT_bin ht] at this
    exact this
  | neg x pos ht =>
    subst ht
    have e : eval (.UnaryOp .USub x pos) C.env = (do let v ← eval x C.env; standAt pos; holding [v] (unaryOp .USub v)) := rfl
    skip
    exact TrE.bind (TrE.mono hv fun a σ₁ s₁ G₁ _ h₁ => TrE.bind (TrE.standAt G₁ (TrE.holding (h₁ default default))))
  | cmp l t r pos ht hs =>
    rw [eval_Compare1, markedBehindIn_of_false (notSet_marks hs)]
    refine TrE.bind (TrE.mono hv fun a σ₁ s₁ G₁ _ h₁ => TrE.bind (TrE.holding (TrE.mono h₁ fun b σ₂ s₂ G₂ _ h₂ => TrE.bind (TrE.standAt G₂ (TrE.operate ?_)))))
    have := h₂ default default
    rw [opT_cmp ht] at this
    exact this
  | inst f p t x y py pos ho hc =>
    obtain ⟨rfl, hg, rfl, hq3⟩ := hc
    subst ho
    refine tr_call (v := .builtin "isinstance") (by have hq2 := starEach_cons (env := C.env) hq3.2.2; exact inst_noStar hq3.2.2) (fun Q' hq => load_blt hS hg (by decide) G R.ok B hq) ?_
    refine callWith_args (.inl ⟨_, rfl⟩) rfl G ?_
    refine TrE.mono hv fun a σ₁ s₁ G₁ _ h₁ => ?_
    have h₁' := h₁ default default
    refine load_blt hS hq3.1 (types_blts hq3.2.1) G₁ R.ok B ⟨σ₁, G₁, Step.refl _ _ _, ?_⟩
    refine (types_bval hq3.2.1) ▸ ?_
    exact h₁'
  | call f p args pos n v hct hc =>
    obtain ⟨rfl, hq1⟩ := hc
    have hq0 := callTok_val hct
    refine tr_call (v := v) hq1.2.1 (fun Q' hq => load_blt hS hq1.1 hq0.1 G R.ok B ((hq0.2 ▸ hq))) ?_
    refine callWith_args (callTok_kind hct) hq1.2.2 G ?_
    exact Ev.mono hv fun vs σ' s' h' => ((opT_call (u := default) (v := default) hct) ▸ (h' _ _))
  | sl11 value l hh p pos ho =>
    subst ho
    refine Subscript_ (wpAny_mono hv (?_) fun _ _ x => x)
    rintro a s₁ ⟨σ₁, _, S₁, h₁⟩
    refine wpAny_Slice (wpAny_mono h₁ (fun x s₂ ⟨σ₂, _, S₂, h₂⟩ => wpAny_mono h₂ (fun y s₃ ⟨σ₃, _, S₃, h₃⟩ => ?_) fun _ _ x => x) fun _ _ x => x)
    skip
    refine wpAny_pure (wpAny_mono (unnew (h₃ value (.Slice (some l) (some hh) none p))) (fun v s' ⟨σ', G', S', q⟩ => ⟨σ', G', ((S₁.trans S₂).trans S₃).trans S', q⟩) fun _ _ x => x)
  | sl10 value l p pos ho =>
    subst ho
    refine Subscript_ (wpAny_mono hv (?_) fun _ _ x => x)
    rintro a s₁ ⟨σ₁, _, S₁, h₁⟩
    refine wpAny_Slice (wpAny_mono h₁ (fun x s₂ ⟨σ₂, _, S₂, h₂⟩ => ?_) fun _ _ x => x)
    skip
    refine wpAny_pure (wpAny_pure (wpAny_mono (unnew (h₂ value (.Slice (some l) none none p))) (fun v s' ⟨σ', G', S', q⟩ => ⟨σ', G', (S₁.trans S₂).trans S', q⟩) fun _ _ x => x))
  | sl01 value hh p pos ho =>
    subst ho
    refine Subscript_ (wpAny_mono hv (?_) fun _ _ x => x)
    rintro a s₁ ⟨σ₁, _, S₁, h₁⟩
    refine wpAny_Slice ?_
    skip
    refine wpAny_pure (wpAny_mono h₁ (?_) fun _ _ x => x)
    rintro x s₂ ⟨σ₂, _, S₂, h₂⟩
    refine wpAny_pure (wpAny_mono (unnew (h₂ value (.Slice none (some hh) none p))) (fun v s' ⟨σ', G', S', q⟩ => ⟨σ', G', (S₁.trans S₂).trans S', q⟩) fun _ _ x => x)
  | rev value st p pos ho =>
    subst ho
    refine Subscript_ (wpAny_mono hv (?_) fun _ _ x => x)
    rintro a s₁ ⟨σ₁, _, S₁, h₁⟩
    refine wpAny_Slice ?_
    skip
    refine wpAny_pure (wpAny_pure (wpAny_mono h₁ (?_) fun _ _ x => x))
    rintro x s₂ ⟨σ₂, _, S₂, h₂⟩
    exact wpAny_mono (unnew (h₂ value (.Slice none none (some st) p))) (fun v s' ⟨σ', G', S', q⟩ => ⟨σ', G', (S₁.trans S₂).trans S', q⟩) fun _ _ x => x
  | item value slice pos ho =>
    subst ho
    refine Subscript_ (wpAny_mono hv (?_) fun _ _ x => x)
    rintro a s₁ ⟨σ₁, _, S₁, h₁⟩
    refine wpAny_mono h₁ (fun i s₂ ⟨σ₂, _, S₂, h₂⟩ => ?_) fun _ _ x => x
    exact wpAny_mono (h₂ value slice) (fun v s' ⟨σ', G', S', q⟩ => ⟨σ', G', (S₁.trans S₂).trans S', q⟩) fun _ _ x => x
  | tup elts k pos ho hst =>
    subst ho
    have e : eval (.Tuple es k pos) C.env = (do standAt pos; newTuple (← spliced (backTo pos (starEach es C.env)))) := rfl
    rw [e, starEach_noStar hst, backTo_noStar]
    exact TrE.bind (TrE.standAt G (TrE.bind (TrE.mono (spliced_ev G hv) fun vs σ' s' _ _ h' => h' default default)))
  | lst elts pos ho hst =>
    have e : eval (.List es pos) C.env = (do standAt pos; newList (← spliced (backTo pos (starEach es C.env)))) := rfl
    rw [e, starEach_noStar hst, backTo_noStar]
    refine TrE.bind (TrE.standAt G (TrE.bind (TrE.mono (spliced_ev G hv) fun vs σ' s' _ _ h' => ?_)))
    have := h' default default
    rcases ho with rfl | rfl <;> exact this
end
end Mine
end

section

open PySem PyProof.Rows
namespace Mine

noncomputable def plainBase : Expr → Bool
  | .Call (.Name _ _) [] [] _ => false
  | _ => true
theorem attributeBase_plain {o : Expr} {attr : Str} {env : Env} {w : Sem Value} (h : plainBase o = true) : attributeBase o attr env w = w := by
  cases o with
  | Call f args kws pos =>
    cases f with
    | Name n p =>
      cases args with
      | nil =>
        cases kws with
        | nil => exact ff h
        | cons _ _ => rfl
      | cons _ _ => rfl
    | _ => rfl
  | _ => rfl

/-- a method's call: the object, the arguments -/
noncomputable def mshp (o : Op) (e : Expr) : Option (Expr × List Expr) :=
  match e with
  | .Call (.Attribute b name apos) args [] pos => match methTok o with
    | some (n, _, _) => if name = Str.ofString n ∧ plainBase b = true ∧ noStar args = true ∧ args.length < 29 ∧ (apos.endLine == pos.line) = true then some (b, args) else none
    | none => none
  | _ => none

theorem mshp_inv {o : Op} {e b : Expr} {args : List Expr} (h : mshp o e = some (b, args)) : ∃ name apos pos n T id, e = .Call (.Attribute b name apos) args [] pos ∧ methTok o = some (n, T, id) ∧ name = Str.ofString n ∧ plainBase b = true ∧ noStar args = true ∧ args.length < 29 ∧ (apos.endLine == pos.line) = true := by
  have no : ∀ {P : Prop}, (none : Option (Expr × List Expr)) = some (b, args) → P := fun h => (nn h)
  cases e with
  | Call f args' kw pos =>
    cases f with
    | Attribute b' name apos =>
      cases kw with
      | cons _ _ => exact no h
      | nil =>
        have h : (match methTok o with
          | some (n, _, _) => if name = Str.ofString n ∧ plainBase b' = true ∧ noStar args' = true ∧ args'.length < 29 ∧ (apos.endLine == pos.line) = true then some (b', args') else none
          | none => none) = some (b, args) := h
        cases hm : methTok o with
        | none => rw [hm] at h; exact no h
        | some x =>
          replace h := hm ▸ h
          have hq0 := ite_some' h
          obtain ⟨rfl, rfl⟩ := Prod.mk.inj hq0.2
          exact ⟨name, apos, pos, x.1, x.2.1, x.2.2, rfl, rfl, hq0.1⟩
    | _ => exact no h
  | _ => exact no h
section
variable {C : Cx} {ls : Ls} {σ : View} {s : Shared}

theorem meth_type (R : Rm C) (G : Good C σ ls s) {o : Op} {v : Value} {x : V} (r : Real s.heap (C.D σ) v x) (h : methOk o x σ) :
    ∃ n T id, methTok o = some (n, T, id) ∧ PlainAttrs T ∧ Slot T (Str.ofString n) id ∧ typeOf (.builtin id) = pure (.type "method_descriptor") ∧ s.TypeIs v T ∧ ∀ a, v = .ref a → ∃ ob, s.heap.get? a = some ob ∧ ob.dict = none := by
  have lists : ∀ {l ro xs}, x = .ref l → σ l = some (.list ro xs) → s.TypeIs v "list" ∧ ∀ a, v = .ref a → ∃ ob, s.heap.get? a = some ob ∧ ob.dict = none := by
    rintro l ro xs rfl e
    obtain rfl := r.ref_i
    obtain ⟨vs, n, ho, _⟩ := G.sim l _ e
    exact ⟨⟨_, ho, rfl⟩, fun a ea => by cases ea; exact ⟨_, ho, rfl⟩⟩
  have dicts : ∀ {es}, dicOf σ x = some es → s.TypeIs v "dict" ∧ ∀ a, v = .ref a → ∃ ob, s.heap.get? a = some ob ∧ ob.dict = none := by
    intro es hd
    obtain ⟨a', ds, n, rfl, ho, _⟩ := dic_at R.ok G r hd
    exact ⟨⟨_, ho, rfl⟩, fun a ea => by cases ea; exact ⟨_, ho, rfl⟩⟩
  cases o <;> simp only [methOk] at h <;> first
    | exact h.elim
    | (refine Exists.elim h fun l hx => ?_; obtain ⟨ro, xs, e1, e2⟩ := hx
       have hq1 := lists e1 e2
       first
         | exact ⟨_, _, _, rfl, F.plainAttrs_list, F.slot_list_append, F.type_list_append, hq1.1, hq1.2⟩
         | exact ⟨_, _, _, rfl, F.plainAttrs_list, F.slot_list_extend, F.type_list_extend, hq1.1, hq1.2⟩
         | exact ⟨_, _, _, rfl, F.plainAttrs_list, F.slot_list_pop, F.type_list_pop, hq1.1, hq1.2⟩
         | exact ⟨_, _, _, rfl, F.plainAttrs_list, F.slot_list_clear, F.type_list_clear, hq1.1, hq1.2⟩)
    | (refine Exists.elim h ?_; rintro es e1
       have hq0 := dicts e1
       first
         | exact ⟨_, _, _, rfl, F.plainAttrs_dict, F.slot_dict_get, F.type_dict_get, hq0.1, hq0.2⟩
         | exact ⟨_, _, _, rfl, F.plainAttrs_dict, F.slot_dict_pop, F.type_dict_pop, hq0.1, hq0.2⟩
         | exact ⟨_, _, _, rfl, F.plainAttrs_dict, F.slot_dict_clear, F.type_dict_clear, hq0.1, hq0.2⟩)
    | (obtain ⟨z, rfl⟩ := h
       cases r
       exact ⟨_, _, _, rfl, F.plainAttrs_str, F.slot_str_join, F.type_str_join, typeIs_str _ _ _, fun _ e => nomatch e⟩)

theorem callWith_meth {pos : Pos} {id : String} {ov : Value} {args : List Expr} {Q : Value → View → Shared → Prop} (G : Good C σ ls s)
    (h : Ev C ls args (fun vs σ' s' => TrE C ls (call (.builtin id) (ov :: vs)) Q σ' s') σ s) : TrE C ls (callWith pos (.builtin id) [ov] (args.map fun e => (false, eval e C.env)) []) Q σ s := by
  have hp : (args.map fun e => ((false : Bool), eval e C.env)).any (·.1) = false := by simp
  cases args with
  | nil => exact PySem.Calls.callWith_builtin hp (PySem.evalArgs_none h)
  | cons e es =>
    have hs := spliced_ev G h
    have hsp : wpAny (model C.W.prog C.W.w) C.A (spliced ((e :: es).map fun e => (false, eval e C.env))) (fun vs s₁ => wpAny (model C.W.prog C.W.w) C.A (call (.builtin id) ([ov] ++ vs)) (EOut C ls Q s.heap σ) (fun _ _ => False) s₁) (fun _ _ => False) s :=
      wpAny_mono hs (fun vs s₁ hx => by obtain ⟨σ₁, G₁, S₁, h₁⟩ := hx; exact wpAny_mono h₁ (fun v s₂ hx => by obtain ⟨σ₂, G₂, S₂, q⟩ := hx; exact ⟨σ₂, G₂, S₁.trans S₂, q⟩) fun _ _ x => x) fun _ _ x => x
    exact PySem.Calls.callWith_builtin hp (PySem.Calls.evalArgs_plain hsp)

theorem mshp_sound (R : Rm C) {o : Op} {e b : Expr} {args : List Expr} {Q : Value → View → Shared → Prop} (h : mshp o e = some (b, args))
    (hv : TrE C ls (eval b C.env) (fun ov σ₁ s₁ => ∃ x, Real s₁.heap (C.D σ₁) ov x ∧ methOk o x σ₁ ∧ Ev C ls args (fun vs σ₂ s₂ => ∀ u v, TrE C ls (opT u v o (ov :: vs)) Q σ₂ s₂) σ₁ s₁) σ s) : TrE C ls (eval e C.env) Q σ s := by
  refine Exists.elim (mshp_inv h) fun name hx => ?_; obtain ⟨apos, pos, n, T, id, rfl, hm, rfl, hb, hst, hl, hline⟩ := hx
  have htrees : backTo pos (starEach args C.env) = args.map fun e => (false, eval e C.env) := by rw [starEach_noStar hst, backTo_noStar]
  refine wpAny_Call_method_late (attributeBase_plain hb) ?_ hline htrees (wpAny_mono hv (fun ov s₁ ⟨σ₁, G₁, S₁, x, r, hok, hev⟩ => ?_) fun _ _ x => x)
  · refine htrees ▸ ?_
    simp [backToKw, keywordEach]; solve_by_elim (maxDepth := 3) [Nat.le_of_lt, Nat.le_trans, Nat.lt_of_lt_of_le, Nat.lt_of_le_of_lt, n1, n2, n5, n6]
  · refine Exists.elim (meth_type R G₁ r hok) fun n' hx => ?_; obtain ⟨T', id', hm', hq0⟩ := hx
    rw [hm] at hm'; cases hm'
    refine ⟨T, id, hq0.1, hq0.2.1, hq0.2.2.1, hq0.2.2.2.1, hq0.2.2.2.2, ?_⟩
    refine wpAny_mono (callWith_meth (pos := pos) (Q := Q) G₁ (Ev.mono hev fun vs σ' s' h' => ((opT_meth (u := default) (v := default) hm) ▸ (h' _ _)))) (fun v s₂ hx => by obtain ⟨σ₂, G₂, S₂, q⟩ := hx; exact ⟨σ₂, G₂, S₁.trans S₂, q⟩) fun _ _ x => x
end
end Mine
end

section

open PySem PyProof.Rows
namespace Mine

noncomputable def Cx.more (C : Cx) (wr : List Addr) : Cx := { C with B := fun a => C.B a ∨ a ∈ wr }
@[simp] theorem more_W (C : Cx) (wr : List Addr) : (C.more wr).W = C.W := rfl
@[simp] theorem more_A (C : Cx) (wr : List Addr) : (C.more wr).A = C.A := rfl
@[simp] theorem more_env (C : Cx) (wr : List Addr) : (C.more wr).env = C.env := rfl
@[simp] theorem more_own (C : Cx) (wr : List Addr) : (C.more wr).own = C.own := rfl
@[simp] theorem more_vars (C : Cx) (wr : List Addr) : (C.more wr).vars = C.vars := rfl

section
variable {C : Cx} {ls : Ls} {σ σ' : View} {s : Shared} {wr : List Addr}

theorem D_more (a : Addr) : (C.more wr).D σ a ↔ C.D σ a ∨ a ∈ wr := by
  dsimp only [Cx.D, Cx.more]
  constructor
  · rintro (h | h | h | h)
    · exact .inl (.inl h)
    · exact .inl (.inr (.inl h))
    · exact .inl (.inr (.inr h))
    · exact .inr h
  · rintro ((h | h | h) | h)
    · exact .inl h
    · exact .inr (.inl h)
    · exact .inr (.inr (.inl h))
    · exact .inr (.inr (.inr h))
theorem Step.weaken {own own' : Addr → Prop} {h h' : Heap} (S : Step own h σ h' σ') (w : ∀ a, own a → own' a) : Step own' h σ h' σ' := ⟨fun b o e hr ho => S.keep b o e hr fun h => ho (w b h), S.size, S.grow, S.ro⟩

/-- objects are made that the frame may change from now on -/
theorem Good.enterL {h₂ : Heap} {tk : Nat} (G : Good C σ ls s) (k : ∀ b o, s.heap.get? b = some o → h₂.get? b = some o) (hz : s.heap.objs.size ≤ h₂.objs.size)
    (hw : ∀ a ∈ wr, s.heap.objs.size ≤ a ∧ ∃ o, h₂.get? a = some o) : Good (C.more wr) σ ls { s with heap := h₂, toks := tk } := by
  have L : Leaves s.heap (C.D σ) h₂ ((C.more wr).D σ) := fun b o e hd => by
    refine ⟨k b o e, fun h => ?_⟩
    rcases (D_more b).mp h with h | h
    · exact hd h
    · exact absurd (Heap.lt_size e) (Nat.not_lt.mpr (hw b h).1)
  have F := G.fr
  refine Exists.elim F.ns ?_; rintro m hm
  refine ⟨⟨fun b o e => k b o (G.stays b o e), G.same, fun a h => ?_, Nat.le_trans G.larger hz, fun a c e => (G.sim a c e).leaves L fun o e => k a o e, fun a h => ?_, fun a h hb => ?_, fun a h => ?_⟩,
    ⟨F.kind, F.glob, F.blt, ⟨m, hm.keeps k⟩, F.ownL, fun x c e => ?_, F.inj, fun i x d e1 e2 e3 => ?_, F.nodup, F.has⟩⟩
  · rcases (D_more a).mp h with h | h
    · exact G.fresh a h
    · exact Nat.le_trans G.larger (hw a h).1
  · rcases h with h | h | h
    · exact G.apart a (.inl h)
    · exact G.apart a (.inr h)
    · exact G.noView (hw a h).1
  · rcases hb with hb | hb
    · exact G.apart2 a h hb
    · exact absurd (G.toGround.lt (.inr (.inl h))) (Nat.not_lt.mpr (hw a hb).1)
  · rcases h with h | h | h
    · refine Exists.elim (G.old a (.inl h)) ?_; rintro o e; exact ⟨o, k a o e⟩
    · refine Exists.elim (G.old a (.inr h)) ?_; rintro o e; exact ⟨o, k a o e⟩
    · exact (hw a h).2
  · obtain ⟨h1, h2, v, hv⟩ := F.cells x c e
    exact ⟨h1.imp id .inl, h2, v, hv.keeps k⟩
  · obtain ⟨v, hq0⟩ := F.val i x d e1 e2 e3
    exact ⟨v, hq0.1.keeps k, hq0.2.leaves L⟩

theorem leaves_less (h : Heap) : Leaves h ((C.more wr).D σ) h (C.D σ) := fun b _ e hd => ⟨e, fun h => hd ((D_more b).mpr (.inl h))⟩
/-- and are let go -/
theorem Good.leaveL {ls' : Ls} {s₁ s₃ : Shared} {σ₁ : View} (G : Good C σ₁ ls s₁) (G' : Good (C.more wr) σ ls' s₃) : Good C σ ls' s₃ := by
  have L := leaves_less (C := C) (σ := σ) (wr := wr) s₃.heap
  have F := G'.fr
  refine ⟨⟨G'.stays, G'.same, fun a h => G'.fresh a ((D_more a).mpr (.inl h)), G'.larger, fun a c e => (G'.sim a c e).leaves L fun _ e => e, fun a h => G'.apart a (h.imp id .inl), fun a h hb => G'.apart2 a h (.inl hb), fun a h => G'.old a (h.imp id .inl)⟩,
    ⟨F.kind, F.glob, F.blt, F.ns, G.fr.ownL, fun x c e => ⟨(G.fr.cells x c e).1, (F.cells x c e).2⟩, F.inj, fun i x d e1 e2 e3 => ?_, F.nodup, F.has⟩⟩
  obtain ⟨v, hq0⟩ := F.val i x d e1 e2 e3
  exact ⟨v, hq0.1, hq0.2.leaves L⟩
theorem Step.leaveL {h₁ h₂ h₃ : Heap} (k : ∀ b o, h₁.get? b = some o → h₂.get? b = some o) (hz : h₁.objs.size ≤ h₂.objs.size) (hw : ∀ a ∈ wr, h₁.objs.size ≤ a) (S : Step (fun a => C.own a ∨ a ∈ wr) h₂ σ h₃ σ') : Step C.own h₁ σ h₃ σ' :=
  ⟨fun b o e hr ho => S.keep b o (k b o e) hr fun h => h.elim ho fun h => absurd (Heap.lt_size e) (Nat.not_lt.mpr (hw b h)), Nat.le_trans hz S.size, fun a h1 h2 => Nat.le_trans hz (S.grow a h1 h2),
    fun a c ha e hr => S.ro a c (Nat.lt_of_lt_of_le ha hz) e hr⟩

/-- while objects of the frame that hold no names change -/
theorem Good.quietW {h' : Heap} {tk : Nat} (G : Good C σ ls s) (hw : ∀ b ∈ wr, C.own b ∨ C.B b) (hl : C.env.locals ∉ wr) (hc : ∀ x c, C.env.cells.lookup x = some c → c ∉ wr) (hz : s.heap.objs.size ≤ h'.objs.size)
    (k : ∀ b o, b ∉ wr → s.heap.get? b = some o → h'.get? b = some o) (al : ∀ b ∈ wr, ∃ o, h'.get? b = some o) :
    Good C σ ls { s with heap := h', toks := tk } ∧ (∀ own : Addr → Prop, (∀ b ∈ wr, own b) → Step own s.heap σ h' σ) ∧ Leaves s.heap (C.D σ) h' (C.D σ) := by
  have S : ∀ own : Addr → Prop, (∀ b ∈ wr, own b) → Step own s.heap σ h' σ := fun own ho' => ⟨fun b o e _ ho => k b o (fun h => ho (ho' b h)) e, hz, fun _ h1 h2 => absurd h2 h1, fun _ _ _ e _ => .inl e⟩
  have L : Leaves s.heap (C.D σ) h' (C.D σ) := fun b o e hd => ⟨k b o (fun h => hd (.inr (hw b h))) e, hd⟩
  have F := G.fr
  obtain ⟨m, hm⟩ := F.ns
  refine ⟨⟨⟨fun b o e => ?_, G.same, G.fresh, Nat.le_trans G.larger hz, fun a c e => (G.sim a c e).leaves L fun o e' => ?_, G.apart, G.apart2, fun a h => ?_⟩,
    ⟨F.kind, F.glob, F.blt, ⟨m, hm.at' fun o e => k _ o hl e⟩, F.ownL, fun x c e => ?_, F.inj, fun i x d e1 e2 e3 => ?_, F.nodup, F.has⟩⟩, S, L⟩
  · have hd : ¬ C.D σ b := fun hd => absurd (Heap.lt_size e) (Nat.not_lt.mpr (G.fresh b hd))
    exact (L b o (G.stays b o e) hd).1
  · refine k a o (fun h => ?_) e'
    have := G.apart a (hw a h); rw [e] at this; exact nn (Eq.symm this)
  · by_cases q : a ∈ wr
    · exact al a q
    · obtain ⟨o, e⟩ := G.old a h; exact ⟨o, k a o q e⟩
  · obtain ⟨h1, h2, v, o, hq1⟩ := F.cells x c e
    exact ⟨h1, h2, v, o, k c o (hc x c e) hq1.1, hq1.2⟩
  · obtain ⟨v, hq0⟩ := F.val i x d e1 e2 e3
    refine ⟨v, hq0.1.at fun b hb o e => ?_, hq0.2.leaves L⟩
    rcases hb with rfl | ⟨y, hy⟩
    · exact k _ o hl e
    · exact k b o (hc y b hy) e

/-! an object is only read for a while -/
theorem Cell.lock_eq {c : Cell} (h : c.ro = true) : c.lock = c := by cases c <;> simp_all [Cell.lock, Cell.ro]
theorem Good.review {τ : View} (G : Good C σ ls s) (hd : ∀ a, τ a = none ↔ σ a = none) (hc : ∀ a c', τ a = some c' → ∃ c, σ a = some c ∧ ∀ D, CellAt s.heap D a c → CellAt s.heap D a c') : Good C τ ls s := by
  have e : C.D τ = C.D σ := by funext a; unfold Cx.D; simp only [ne_eq, hd, ne_eq]
  have F := G.fr
  refine ⟨⟨G.stays, G.same, (e ▸ G.fresh), G.larger, fun a c' h => ?_, fun a h => (hd a).mpr (G.apart a h), G.apart2, G.old⟩, ⟨F.kind, F.glob, F.blt, F.ns, F.ownL, F.cells, F.inj, (e ▸ F.val), F.nodup, F.has⟩⟩
  refine Exists.elim (hc a c' h) ?_; rintro c hq0
  rw [e]; exact hq0.2 _ (G.sim a c hq0.1)

theorem lockV_cases (σ : View) (us : List V) : lockV σ us = σ ∨ ∃ a c, us = [.ref a] ∧ σ a = some c ∧ lockV σ us = σ.upd a c.lock := by
  unfold lockV
  split
  · split
    · rename_i c e; exact .inr ⟨_, c, rfl, e, rfl⟩
    · exact .inl rfl
  · exact .inl rfl
theorem Good.lock (G : Good C σ ls s) (us : List V) : Good C (lockV σ us) ls s := by
  rcases lockV_cases σ us with h | ⟨a, c, rfl, e, h⟩
  · exact (Eq.symm h) ▸ G
  · refine h ▸ ?_
    refine G.review (fun b => ?_) fun b c' hb => ?_
    · by_cases q : b = a
      · subst q; simp [e]
      · rw [upd_ne q]
    · by_cases q : b = a
      · subst q; rw [upd_self] at hb; cases hb; exact ⟨c, e, fun D h => CellAt.lock.mpr h⟩
      · rw [upd_ne q] at hb; exact ⟨c', hb, fun _ h => h⟩
theorem Step.lock (own : Addr → Prop) (h : Heap) (σ : View) (us : List V) : Step own h σ h (lockV σ us) := by
  rcases lockV_cases σ us with e | ⟨a, c, rfl, e, e'⟩
  · simp only [e]; exact Step.refl _ _ _
  · simp only [e']
    refine ⟨fun _ _ e _ _ => e, Nat.le_refl _, fun b h1 h2 => ?_, fun b c' _ eb hr => ?_⟩
    · by_cases q : b = a
      · subst q; replace h2 := e ▸ h2; exact nn (Eq.symm h2)
      · rw [upd_ne q] at h1; exact absurd h2 h1
    · by_cases q : b = a
      · subst q; cases Eq.trans (Eq.symm e) eb; left; rw [upd_self, Cell.lock_eq hr]
      · left; exact (upd_ne q) ▸ eb
theorem unlock {us : List V} {σ₁ σ₃ : View} {s₁ s₃ : Shared} {ls₃ : Ls} {own : Addr → Prop} (G₁ : ∀ a, σ₁ a ≠ none → a < s₁.heap.objs.size) (G₃ : Good C σ₃ ls₃ s₃) (S : Step own s₁.heap (lockV σ₁ us) s₃.heap σ₃) :
    Good C (unlockV σ₁ us σ₃) ls₃ s₃ ∧ Step own s₁.heap σ₁ s₃.heap (unlockV σ₁ us σ₃) := by
  have S₀ : Step own s₁.heap σ₁ s₃.heap σ₃ := (Step.lock _ _ _ _).trans S
  have main : ∀ {a : Addr} {c c' : Cell}, us = [.ref a] → σ₁ a = some c → σ₃ a = some c' → c.lock.ro = true → Good C (σ₃.upd a c) ls₃ s₃ ∧ Step own s₁.heap σ₁ s₃.heap (σ₃.upd a c) := by
    rintro a c c' rfl e1 e2 hr
    have hlt : a < s₁.heap.objs.size := G₁ a (not_some e1)
    have hl : lockV σ₁ [.ref a] a = some c.lock := by dsimp only [lockV]; simp [e1]
    have h3 : σ₃ a = some c.lock := by
      rcases S.ro a c.lock hlt hl hr with h | h
      · exact h
      · exact nn (Eq.trans (Eq.symm h) e2)
    refine ⟨G₃.review (fun b => ?_) fun b d hb => ?_, fun b o e hb ho => S₀.keep b o e hb ho, S₀.size, fun b h1 h2 => ?_, fun b d hb eb hd => ?_⟩
    · by_cases q : b = a
      · cases q; simp [h3]
      · rw [upd_ne q]
    · by_cases q : b = a
      · subst q; rw [upd_self] at hb; cases hb; exact ⟨_, h3, fun D h => CellAt.lock.mp h⟩
      · rw [upd_ne q] at hb; exact ⟨d, hb, fun _ h => h⟩
    · by_cases q : b = a
      · subst q; replace h2 := e1 ▸ h2; exact nn (Eq.symm h2)
      · rw [upd_ne q] at h1; exact S₀.grow b h1 h2
    · by_cases q : b = a
      · cases q; rw [e1] at eb; cases eb; left; simp
      · exact (upd_ne q) ▸ (S₀.ro b d hb eb hd)
  unfold unlockV
  split
  · split
    · rename_i e1 e2; exact main rfl e1 e2 rfl
    · rename_i e1 e2; exact main rfl e1 e2 rfl
    · exact ⟨G₃, S₀⟩
  · exact ⟨G₃, S₀⟩
end
end Mine
end

section

open PySem PyProof.Rows
namespace Mine

/-- a pair's parts, as a target of two names takes them -/
noncomputable def RealP (h : Heap) (D : Addr → Prop) (v : Value) (x : V) : Prop := ∃ T v1 v2 p q, v = .ref T ∧ h.IsTuple T #[v1, v2] ∧ x = .tup [p, q] ∧ Real h D v1 p ∧ Real h D v2 q
/-- an iterator over data; `wr`: its own objects; `tgt`: the target that its items go to -/
structure It (C : Cx) (s₁ : Shared) (σ₀ : View) (tgt : Expr) (Rp : Heap → (Addr → Prop) → Value → V → Prop) (it : Addr) (wr : List Addr) (xs : List V) (fp : List Addr) (P : Nat → Nat → Heap → Value → Prop) (St : Nat → Heap → Prop) : Prop where
  frame : ∀ i h h', St i h → (∀ b ∈ fp, ∀ o, h.get? b = some o → h'.get? b = some o) → St i h'
  item : ∀ i (s : Shared) (Q : Value → Shared → Prop), i < xs.length → St i s.heap →
    (∀ v h' tk, P i s.heap.objs.size h' v → St (i + 1) h' → (∀ b o, b ∉ wr → s.heap.get? b = some o → h'.get? b = some o) → Q v { s with heap := h', toks := tk }) →
    wpAny (model C.W.prog C.W.w) C.A (pyNext (.ref it)) (fun r s₂ => ∃ v, r = some v ∧ wpAny (model C.W.prog C.W.w) C.A (letOwnedTupleGo tgt (.ref it) v) (fun _ s₃ => Q v s₃) (fun _ _ => False) s₂) (fun _ _ => False) s
  done : ∀ (s : Shared) (Q : Option Value → Shared → Prop) (E : Value → Shared → Prop), St xs.length s.heap →
    (∀ h' tk, (∀ b o, b ∉ wr → s.heap.get? b = some o → h'.get? b = some o) → Q none { s with heap := h', toks := tk }) → wpAny (model C.W.prog C.W.w) C.A (pyNext (.ref it)) Q E s
  self : ∀ i (s : Shared) (Q : Value → Shared → Prop) (E : Value → Shared → Prop), St i s.heap → Q (.ref it) s → wpAny (model C.W.prog C.W.w) C.A (pyIter (.ref it)) Q E s
  alive : ∀ i h, St i h → ∀ b ∈ wr, ∃ o, h.get? b = some o
  fps : ∀ b ∈ fp, b ∈ wr ∨ (b < s₁.heap.objs.size ∧ ¬ Rw σ₀ b ∧ ¬ C.own b)
  new : ∀ b ∈ wr, s₁.heap.objs.size ≤ b
  val : ∀ i v n₀ (h' : Heap) D', i < xs.length → Leaves s₁.heap (C.D σ₀) h' D' → (∀ a, D' a → a < n₀) → P i n₀ h' v → ∃ x, xs[i]? = some x ∧ Rp h' D' v x

section
variable {C : Cx} {ls : Ls} {σ σ' : View} {s : Shared} {wr : List Addr} {x : V} {v : Value}

/-- the iterator's last step, and its end -/
theorem Good.endL {ls' : Ls} {s₁ : Shared} {σ₁ : View} {h' : Heap} {tk : Nat} (G₁ : Good C σ₁ ls s₁) (G : Good (C.more wr) σ ls' s) (G₀ : ∀ b, C.own b ∨ C.B b → b ∉ wr) (hz : s.heap.objs.size ≤ h'.objs.size)
    (k : ∀ b o, b ∉ wr → s.heap.get? b = some o → h'.get? b = some o) : Good C σ ls' { s with heap := h', toks := tk } := by
  have L : Leaves s.heap ((C.more wr).D σ) h' (C.D σ) := fun b o e hd => ⟨k b o (fun h => hd ((D_more b).mpr (.inr h))) e, fun h => hd ((D_more b).mpr (.inl h))⟩
  have F := G.fr
  refine Exists.elim F.ns ?_; rintro m hm
  have kk : ∀ b, C.own b ∨ C.B b → ∀ o, s.heap.get? b = some o → h'.get? b = some o := fun b hb o e => k b o (G₀ b hb) e
  refine ⟨⟨fun b o e => ?_, G.same, fun a h => G.fresh a ((D_more a).mpr (.inl h)), Nat.le_trans G.larger hz, fun a c e => (G.sim a c e).leaves L fun o e' => ?_, fun a h => G.apart a (h.imp id .inl), fun a h hb => G.apart2 a h (.inl hb), fun a h => ?_⟩,
    ⟨F.kind, F.glob, F.blt, ⟨m, hm.at' fun o e => kk _ (.inl G₁.fr.ownL) o e⟩, G₁.fr.ownL, fun x c e => ?_, F.inj, fun i x d e1 e2 e3 => ?_, F.nodup, F.has⟩⟩
  · have hd : ¬ (C.more wr).D σ b := fun hd => absurd (Heap.lt_size e) (Nat.not_lt.mpr (G.fresh b hd))
    exact (L b o (G.stays b o e) hd).1
  · refine k a o (fun h => ?_) e'
    have := G.apart a (.inr (.inr h)); replace this := e ▸ this; exact nn (Eq.symm this)
  · refine Exists.elim (G.old a (h.imp id .inl)) ?_; rintro o e; exact ⟨o, kk a h o e⟩
  · obtain ⟨h1, h2, v, o, hq1⟩ := F.cells x c e
    exact ⟨(G₁.fr.cells x c e).1, h2, v, o, kk c (G₁.fr.cells x c e).1 o hq1.1, hq1.2⟩
  · obtain ⟨v, hq0⟩ := F.val i x d e1 e2 e3
    refine ⟨v, hq0.1.at fun b hb o e => ?_, hq0.2.leaves L⟩
    rcases hb with rfl | ⟨y, hy⟩
    · exact kk _ (.inl G₁.fr.ownL) o e
    · exact kk b (G₁.fr.cells y b hy).1 o e

theorem lockV_none {us : List V} {b : Addr} (h : σ b = none) : lockV σ us b = none := by
  rcases lockV_cases σ us with e | ⟨a, c, _, e, e'⟩
  · exact (Eq.symm e) ▸ h
  · rw [e', upd_ne (by rintro rfl; rw [e] at h; exact nn (Eq.symm h))]; exact h
theorem D_lock (us : List V) : C.D (lockV σ us) = C.D σ := by
  rcases lockV_cases σ us with e | ⟨a, c, _, e, e'⟩
  · rw [e]
  · rw [e']; exact D_upd e
/-- what is gone through is only read -/
theorem src_locked (G : Good C σ ls s) {a : Addr} (r : Real s.heap (C.D σ) (.ref a) x) (h : (∃ xs, seqOf σ x = some xs) ∨ ∃ es, dicOf σ x = some es) : ¬ Rw (lockV σ [x]) a ∧ ¬ C.own a := by
  have frozen : ¬ C.D σ a → ¬ Rw (lockV σ [x]) a ∧ ¬ C.own a := fun hd => by
    refine ⟨Rw.of_none (lockV_none ?_), fun h => hd (.inr (.inl h))⟩
    cases q : σ a with
    | none => rfl
    | some c => exact absurd (.inl (not_some q)) hd
  have locked : ∀ {c : Cell}, x = .ref a → σ a = some c → c.lock.ro = true → ¬ Rw (lockV σ [x]) a ∧ ¬ C.own a := by
    rintro c rfl e hr
    refine ⟨?_, fun h => by have := G.apart a (.inl h); replace this := e ▸ this; exact nn (Eq.symm this)⟩
    dsimp only [lockV]
    simp only [e]
    exact Rw.of_ro (upd_self _ _ _) hr
  cases r with
  | tup ho hz hd rs => exact frozen hd
  | lst ho hz hd rs => exact frozen hd
  | dct ho hz hn h2 hd rs => exact frozen hd
  | ref =>
    cases e : σ a with
    | none => rcases h with ⟨_, h⟩ | ⟨_, h⟩ <;> simp [seqOf, lstOf, dicOf, e] at h
    | some c =>
      cases c with
      | list ro xs => exact locked rfl e rfl
      | dict ro xs => exact locked rfl e rfl

theorem It.of_walks {y : Str} {py : Pos} {s₁ : Shared} {σ₀ : View} {it : Addr} {xs : List V} {fp : List Addr} {P : Nat → Value → Prop} {St : Nat → Heap → Prop} (W : Walks C.W.prog C.W.w C.A it fp [it] xs.length P St)
    (alive : ∀ i h, St i h → ∃ o, h.get? it = some o) (fps : ∀ b ∈ fp, b = it ∨ (b < s₁.heap.objs.size ∧ ¬ Rw σ₀ b ∧ ¬ C.own b)) (new : s₁.heap.objs.size ≤ it)
    (val : ∀ i v (h' : Heap) D', i < xs.length → Leaves s₁.heap (C.D σ₀) h' D' → P i v → ∃ x, xs[i]? = some x ∧ Real h' D' v x) :
    It C s₁ σ₀ (.Name y py) Real it [it] xs fp (fun i _ _ v => P i v) St :=
  ⟨W.frame, fun i s Q hi st hQ => W.item i s _ _ hi st fun v h' tk p st' k => ⟨v, rfl, wpAny_pure (hQ v h' tk p st' k)⟩, W.done, W.self, fun i h st b hb => by replace hb := List.mem_singleton.mp hb; subst hb; exact alive i h st, fun b hb => (fps b hb).imp (fun e => by simp [e]) id, fun b hb => by replace hb := List.mem_singleton.mp hb; subst hb; exact new, fun i v _ h' D' hi L _ hv => val i v h' D' hi L hv⟩

theorem it_value {y : Str} {py : Pos} (R : Rm C) (G : Good C σ ls s) {xs : List V} {Q : Value → Shared → Prop} {E : Value → Shared → Prop} (r : Real s.heap (C.D σ) v x) (h : itemsOf σ x = some xs)
    (hQ : ∀ o fp P St, It C s (lockV σ [x]) (.Name y py) Real s.heap.objs.size [s.heap.objs.size] xs fp P St → St 0 (s.heap.push o) → Q (.ref s.heap.objs.size) { s with heap := s.heap.push o }) :
    wpAny (model C.W.prog C.W.w) C.A (pyIter v) Q E s := by
  rcases itemsOf_cases h with ⟨z, rfl, rfl⟩ | hs | ⟨es, hd, rfl⟩
  · obtain ⟨t, rfl, k, z'⟩ := r.str_i
    have hl : (charsOf z).length = z.cps.size := by simp [charsOf]
    have val : ∀ i v (h' : Heap) D', i < (charsOf z).length → Leaves s.heap (C.D (lockV σ [.str z])) h' D' → SignAt z i v → ∃ x, (charsOf z)[i]? = some x ∧ Real h' D' v x := by
      intro i v h' D' _ _ hv
      obtain ⟨c, u, hc, rfl⟩ := hv
      refine ⟨.str ⟨#[c]⟩, ?_, .str _ _ (strOk_one k hc) (by simp)⟩
      simp [charsOf, hc]
    cases ha : z.cps.all (· < 128)
    · have W := Walks.strWide (prog := C.W.prog) (w := C.W.w) R.hh s.heap.objs.size z t
      rw [← hl] at W
      refine wpAny_pyIter_wide ha (hQ _ _ _ _ (It.of_walks W (fun i h st => let ⟨o, e, _⟩ := st; ⟨o, e⟩) (fun b hb => .inl (by simpa using hb)) (Nat.le_refl _) val) ⟨_, Heap.get?_push_size _ rfl, rfl, rfl⟩)
    · have W := Walks.strAscii (prog := C.W.prog) (w := C.W.w) R.hh s.heap.objs.size z t
      rw [← hl] at W
      refine wpAny_pyIter_ascii ha (hQ _ _ _ _ (It.of_walks W (fun i h st => let ⟨o, e, _⟩ := st; ⟨o, e⟩) (fun b hb => .inl (by simpa using hb)) (Nat.le_refl _) val) ⟨_, Heap.get?_push_size _ rfl, rfl, rfl⟩)
  · obtain ⟨a', vs, n, rfl, ho, hz, rs⟩ := seq_at G r hs
    have el : vs.size = xs.length := by rw [← rs.length]; simp
    have hlt : a' < s.heap.objs.size := by rcases ho with ho | ho <;> exact Heap.lt_size ho
    have fps : ∀ b ∈ [s.heap.objs.size, a'], b = s.heap.objs.size ∨ (b < s.heap.objs.size ∧ ¬ Rw (lockV σ [x]) b ∧ ¬ C.own b) := fun b hb => by
      simp at hb
      rcases hb with rfl | rfl
      · exact .inl rfl
      · exact .inr ⟨hlt, src_locked G r (.inl ⟨_, hs⟩)⟩
    have val : ∀ (i : Nat) v (h' : Heap) D', i < xs.length → Leaves s.heap (C.D (lockV σ [x])) h' D' → vs[i]? = some v → ∃ x, xs[i]? = some x ∧ Real h' D' v x := by
      intro i v h' D' _ L hv
      rw [D_lock] at L
      obtain ⟨y, h1, h2⟩ := rs.get' (i := i) (v := v) (by simpa using hv)
      exact ⟨y, h1, h2.leaves L⟩
    rcases ho with ho | ho
    · have W := Walks.list (prog := C.W.prog) (w := C.W.w) R.hh s.heap.objs.size a' (Nat.ne_of_lt hlt) vs
      rw [el] at W
      exact wpAny_pyIter_list (isList_of ho) (hQ _ _ _ _ (It.of_walks W (fun i h st => let ⟨o, e, _⟩ := st.1; ⟨o, e⟩) fps (Nat.le_refl _) val)
        ⟨⟨_, Heap.get?_push_size _ rfl, rfl, rfl⟩, (isList_of ho).push _⟩)
    · have W := Walks.tuple (prog := C.W.prog) (w := C.W.w) R.hh s.heap.objs.size a' (Nat.ne_of_lt hlt) vs
      rw [el] at W
      refine wpAny_pyIter_tuple (items := vs) (isTup_of ho) (hQ _ _ _ _ (It.of_walks W (fun i h st => let ⟨o, e, _⟩ := st.1; ⟨o, e⟩) fps (Nat.le_refl _) val) ?_)
      refine ⟨⟨_, Heap.get?_push_size _ rfl, rfl, rfl⟩, ?_⟩
      refine Exists.elim (isTup_of ho) ?_; rintro o hq1
      exact ⟨o, Heap.get?_push_of_some _ hq1.1, hq1.2⟩
  · obtain ⟨a', ds, n, rfl, ho, hz, hn, h2, rs⟩ := dic_at R.ok G r hd
    obtain ⟨kvs, hq0⟩ := RealD.pairs (prog := C.W.prog) (w := C.W.w) rs
    have at' : s.heap.DictAt (intKind C.W.prog C.W.w) a' kvs n := ⟨_, ds, ho, ⟨rfl, rfl, rfl⟩, rfl, fun e he => hq0.2.2.2 e (Array.mem_toList_iff.mpr he), hq0.1, by rw [hq0.2.1]; exact hn⟩
    have el : kvs.length = es.length := by have := congrArg List.length hq0.2.1; simpa using this
    have hlt := Heap.lt_size ho
    have W := Walks.dictKeys (knd := intKind C.W.prog C.W.w) R.hh s.heap.objs.size a' (Nat.ne_of_lt hlt) kvs n
    rw [show kvs.length = (es.map fun p => V.int p.1).length by rw [el, List.length_map]] at W
    refine wpAny_pyIter_dict (sysMod h2) at' (hQ _ _ _ _ (It.of_walks W (fun i h st => let ⟨o, e, _⟩ := st.1; ⟨o, e⟩) (fun b hb => ?_) (Nat.le_refl _) fun i v h' D' _ _ hv => ?_) ?_)
    · simp at hb
      rcases hb with rfl | rfl
      · exact .inl rfl
      · exact .inr ⟨hlt, src_locked G r (.inr ⟨_, hd⟩)⟩
    · obtain ⟨k, w, hk, hkk⟩ := hv
      have hk2 : (es.map (·.1))[i]? = some k := by rw [← hq0.2.1]; simp [hk]
      refine Exists.elim (Value.isInt_shape hkk) fun t hx => ?_; obtain rfl := hx
      refine ⟨.int k, ?_, .int _ _⟩
      have : (es.map fun p => V.int p.1) = (es.map (·.1)).map V.int := by simp
      simp only [this, List.getElem?_map, hk2]; rfl
    · exact ⟨⟨_, Heap.get?_push_size _ rfl, rfl, by rw [List.length_map, ← el]; rfl⟩, at'.push _⟩
end
end Mine
end

section

open PySem PyProof.Rows
namespace Mine
section
variable {C : Cx} {ls : Ls} {σ σ' : View} {s : Shared} {x : V} {v : Value}

noncomputable def srcT (k : Nat) (vs : List Value) : Sem Value :=
  match k, vs with
  | 0, [v] => pure v
  | 1, vs => call (.type "range") vs
  | 2, vs => call (.type "enumerate") vs
  | 3, vs => call (.type "reversed") vs
  | _, _ => unsupported "none"

theorem rangeSize_one (a b : Int) : Builtin.Range.rangeSize a b 1 = ((b - a).toNat : Int) := by
  unfold Builtin.Range.rangeSize
  rw [if_pos (by decide)]
  by_cases h : a < b
  · rw [if_pos h, Int.ediv_one, Int.sub_add_cancel, Int.toNat_of_nonneg (Int.sub_nonneg_of_le (Int.le_of_lt h))]
  · rw [if_neg h, Int.toNat_of_nonpos (Int.sub_nonpos_of_le (Int.not_lt.mp h))]; rfl
theorem small_one {a b : Int} (ha : smallI a = true) (hb : smallI b = true) : Builtin.Range.small a b 1 = true := by
  unfold smallI at ha hb
  obtain ⟨a1, a2⟩ := Bool.and_eq_true_iff.mp ha
  obtain ⟨b1, b2⟩ := Bool.and_eq_true_iff.mp hb
  have a1 := of_decide_eq_true a1
  have a2 := of_decide_eq_true a2
  have b1 := of_decide_eq_true b1
  have b2 := of_decide_eq_true b2
  have h : ((b - a).toNat : Int) < 2 ^ 63 := by (first | lia | omega)
  unfold Builtin.Range.small
  rw [rangeSize_one]
  simp only [Builtin.Range.rangeFitsLong]
  simp
  (first | lia | omega)

/-- from a range that lies in the heap -/
theorem it_range {y : Str} {py : Pos} (R : Rm C) {us : List V} {h₁ : Heap} {tk : Nat} {ra : Addr} {a b : Int} {t u w : Tok} {Q : Value → Shared → Prop} {E : Value → Shared → Prop} (hr : IsRange h₁ ra a b 1 t u w)
    (ha : smallI a = true) (hb : smallI b = true) (k : ∀ b o, s.heap.get? b = some o → h₁.get? b = some o) (hz : s.heap.objs.size ≤ h₁.objs.size)
    (hQ : ∀ it h₂ tk fp P St, It C s (lockV σ us) (.Name y py) Real it [it] ((rangeL a b 1).map .int) fp P St → St 0 h₂ → (∀ b o, s.heap.get? b = some o → h₂.get? b = some o) → s.heap.objs.size ≤ h₂.objs.size → Q (.ref it) { s with heap := h₂, toks := tk }) :
    wpAny (model C.W.prog C.W.w) C.A (pyIter (.ref ra)) Q E { s with heap := h₁, toks := tk } := by
  have hl : ((rangeL a b 1).map V.int).length = (b - a).toNat := by rw [List.length_map]; unfold rangeL; rw [List.length_map, List.length_range]
  have W := Walks.range (prog := C.W.prog) (w := C.W.w) (A := C.A) R.hh h₁.objs.size a 1 (b - a).toNat
  rw [← hl] at W
  refine wpAny_pyIter_range hr (small_one ha hb) (hQ h₁.objs.size _ tk _ _ _ (It.of_walks W (fun i h st => ⟨_, st⟩) (fun b hb => .inl (List.mem_singleton.mp hb)) hz fun i v h' D' hi _ hv => ?_) ?_ (fun b o e => Heap.get?_push_of_some _ (k b o e)) (by rw [Heap.size_push]; exact Nat.le_succ_of_le hz))
  · obtain ⟨t', rfl⟩ := hv
    rw [hl] at hi
    refine ⟨.int (a + i * 1), ?_, .int _ _⟩
    unfold rangeL
    rw [List.map_map, List.getElem?_map, List.getElem?_range hi, Int.mul_one]; rfl
  · show IsRangeIter _ _ _ _ _
    rw [hl, rangeSize_one]
    simp only [Int.natCast_zero, Int.zero_mul, Int.add_zero, Int.sub_zero]
    exact Heap.get?_push_size _ rfl

/-- from the values on: an iterator -/
noncomputable def Src (C : Cx) (tgt : Expr) (Rp : Heap → (Addr → Prop) → Value → V → Prop) (s : Shared) (σ : View) (us xs : List V) (r : Value) (s' : Shared) : Prop :=
  ∀ (K : Value → Shared → Prop), (∀ it wr h₂ tk fp P St, It C s (lockV σ us) tgt Rp it wr xs fp P St → St 0 h₂ → (∀ b o, s.heap.get? b = some o → h₂.get? b = some o) → s.heap.objs.size ≤ h₂.objs.size → K (.ref it) { s with heap := h₂, toks := tk }) →
    wpAny (model C.W.prog C.W.w) C.A (pyIter r) K (fun _ _ => False) s'
theorem intL_some {f : Int → Option (List V)} {x : V} {d : List V} (h : intL f x = some d) : ∃ a, x = .int a ∧ f a = some d := by
  cases x with
  | int a => exact ⟨a, rfl, h⟩
  | _ => exact nn h
theorem ite_someL {c : Prop} [Decidable c] {a d : List V} (e : (if c then some a else none) = some d) : c ∧ d = a := by
  by_cases h : c
  · rw [if_pos h] at e; exact ⟨h, (Option.some.inj e).symm⟩
  · rw [if_neg h] at e; exact nn e
theorem it_src {y : Str} {py : Pos} (R : Rm C) (G : Good C σ ls s) {vs : List Value} {us xs : List V} (rs : Reals s.heap (C.D σ) vs us) (h : rangeXs us = some xs) :
    wpAny (model C.W.prog C.W.w) C.A (srcT 1 vs) (fun r s' => Src C (.Name y py) Real s σ us xs r s') (fun _ _ => False) s := by
  have hz : ∀ o, s.heap.objs.size ≤ (s.heap.push o).objs.size := fun o => by rw [Heap.size_push]; exact Nat.le_succ _
  cases us with
  | nil => exact nn h
  | cons x r =>
    cases r with
    | nil =>
      obtain ⟨v, rfl, rv⟩ := rs.one
      obtain ⟨i, rfl, h⟩ := intL_some h
      obtain ⟨hs, rfl⟩ := ite_someL h
      obtain ⟨t, rfl⟩ := rv.int_i
      exact call_range_1 fun K hQ => (it_range R (s := s) (σ := σ) (IsRange.new ..) rfl hs (fun b o e => Heap.get?_push_of_some _ e) (hz _) fun it h₂ tk fp P St I => hQ it _ h₂ tk fp P St I)
    | cons x' r =>
      cases r with
      | nil =>
        obtain ⟨v, w, rfl, rv, rw'⟩ := rs.two
        obtain ⟨i, rfl, h⟩ := intL_some h
        obtain ⟨j, rfl, h⟩ := intL_some h
        obtain ⟨hs, rfl⟩ := ite_someL h
        obtain ⟨t, rfl⟩ := rv.int_i
        obtain ⟨u, rfl⟩ := rw'.int_i
        exact call_range_2 fun K hQ => (it_range R (s := s) (σ := σ) (IsRange.new ..) (Bool.and_eq_true_iff.mp hs).1 (Bool.and_eq_true_iff.mp hs).2 (fun b o e => Heap.get?_push_of_some _ e) (hz _) fun it h₂ tk fp P St I => hQ it _ h₂ tk fp P St I)
      | cons _ _ => exact nn h

/-- enumerate, its pairs taken apart -/
theorem it_enum {elts : List Expr} {n1 : Nat} {pt : Pos} (R : Rm C) (G : Good C σ ls s) {vs : List Value} {us xs : List V} (rs : Reals s.heap (C.D σ) vs us) (h : itXs 2 σ us = some xs) :
    wpAny (model C.W.prog C.W.w) C.A (srcT 2 vs) (fun r s' => Src C (.Tuple elts n1 pt) RealP s σ us xs r s') (fun _ _ => False) s := by
  obtain ⟨x, ys, rfl, hy, rfl⟩ : ∃ x ys, us = [x] ∧ lstOf σ x = some ys ∧ xs = ys.mapIdx enumV := by
    cases us with
    | nil => exact nn h
    | cons x r =>
      cases r with
      | nil => obtain ⟨ys, hq1⟩ := Option.map_eq_some_iff.mp h; exact ⟨x, ys, rfl, hq1.1, hq1.2.symm⟩
      | cons _ _ => exact nn h
  · obtain ⟨v, rfl, rv⟩ := rs.one
    have hs : seqOf σ x = some ys := by cases x <;> first | exact hy | exact nn hy
    obtain ⟨a, items, n, rfl, ho, hz, rs'⟩ := lst_at G rv hy
    have el : items.size = ys.length := by rw [← rs'.length]; rfl
    have hlt : a < s.heap.objs.size := Heap.lt_size ho
    have hL : s.heap.IsList a items := ⟨_, ho, rfl, n, rfl⟩
    have hle : a ≠ s.heap.objs.size + 1 := Nat.ne_of_lt (Nat.lt_succ_of_lt hlt)
    have hli : a ≠ s.heap.objs.size := Nat.ne_of_lt hlt
    have W := WalksT.enumerate (prog := C.W.prog) (w := C.W.w) (A := C.A) R.hh (s.heap.objs.size + 1) s.heap.objs.size a (Nat.succ_ne_self _) hle hli items
    refine call_enumerate_list hL fun h' he hit hsz hk K hQ => W.self 0 _ _ _ ⟨⟨_, he⟩, hit, hL.at fun o e => hk a o e⟩ ?_
    refine hQ (s.heap.objs.size + 1) [s.heap.objs.size + 1, s.heap.objs.size] h' s.toks [s.heap.objs.size + 1, s.heap.objs.size, a] (fun i n₀ h v => ∃ T vals, v = .ref T ∧ h.IsTuple T vals ∧ ∃ t x, items[i]? = some x ∧ vals = #[.int i t, x]) _ ⟨W.frame, fun i s' Q hi st hq => ?_, fun s' Q E st hq => W.done s' Q E (by rw [el]; simpa using st) hq, W.self, fun i h st b hb => ?_, fun b hb => ?_, fun b hb => ?_, fun i v n₀ h D' hi L hd hp => ?_⟩ ⟨⟨_, he⟩, hit, hL.at fun o e => hk a o e⟩ hk (by rw [hsz]; solve_by_elim (maxDepth := 2) [Nat.le_of_lt, Nat.le_trans, Nat.lt_of_lt_of_le, Nat.lt_of_le_of_lt, Nat.le_succ_of_le, Nat.lt_succ_of_le, Nat.le_of_succ_le, Nat.le_of_lt_succ, Nat.not_lt.mp, Nat.not_le.mp, Nat.le_add_right, Nat.le_add_left, Nat.sub_le])
    · refine W.item i s' _ _ (by rw [el]; simpa using hi) st fun T vals h₂ tk hP hT ht hm hk₂ => ⟨_, rfl, ?_⟩
      refine W.go elts n1 pt i T _ _ _ hm fun h₃ st₃ hk₃ => hq _ h₃ tk ⟨T, vals, rfl, ?_, hP⟩ st₃ fun b o hb e => hk₃ b o hb (hk₂ b o hb e)
      exact ht.at fun o e => hk₃ T o (W.apart i T _ hm) e
    · obtain ⟨⟨_, e1⟩, ⟨_, e2, _⟩, _⟩ := st
      simp only [List.mem_cons, List.not_mem_nil, or_false] at hb
      rcases hb with rfl | rfl
      · exact ⟨_, e1⟩
      · exact ⟨_, e2⟩
    · simp only [List.mem_cons, List.not_mem_nil, or_false] at hb
      rcases hb with rfl | rfl | rfl
      · exact .inl (.head _)
      · exact .inl (.tail _ (.head _))
      · exact .inr ⟨hlt, src_locked G rv (.inl ⟨_, hs⟩)⟩
    · simp only [List.mem_cons, List.not_mem_nil, or_false] at hb
      rcases hb with rfl | rfl
      · exact Nat.le_succ _
      · exact Nat.le_refl _
    · obtain ⟨T, vals, rfl, ht, t, w, hw, rfl⟩ := hp
      rw [D_lock] at L
      obtain ⟨y, hq0⟩ := rs'.get' (i := i) (v := w) (by simpa using hw)
      exact ⟨enumV i y, by rw [List.getElem?_mapIdx, hq0.1]; rfl, T, _, _, _, _, rfl, ht, rfl, .int _ _, hq0.2.leaves L⟩
end
end Mine
end

section

open PySem PyProof.Rows
namespace Mine
section
variable {C C' : Cx} {ls : Ls} {σ σ' τ : View} {s s₁ s₃ : Shared}

/-- into a block of its own -/
theorem Ground.enter {h₂ : Heap} {tk : Nat} (G : Ground C σ s) (hW : C'.W = C.W) (k : ∀ b o, s.heap.get? b = some o → h₂.get? b = some o) (hz : s.heap.objs.size ≤ h₂.objs.size)
    (hN : ∀ a, C'.own a ∨ C'.B a → (C.own a ∨ C.B a) ∨ (s.heap.objs.size ≤ a ∧ ∃ o, h₂.get? a = some o)) (hd : ∀ a, C'.own a → ¬ C'.B a) : Ground C' σ { s with heap := h₂, toks := tk } := by
  have L : Leaves s.heap (C.D σ) h₂ (C'.D σ) := fun b o e hd => by
    refine ⟨k b o e, ?_⟩
    rintro (h | h)
    · exact hd (.inl h)
    · rcases hN b h with h | h
      · exact hd (.inr h)
      · exact absurd (Heap.lt_size e) (Nat.not_lt.mpr h.1)
  refine ⟨(hW ▸ (fun b o e => k b o (G.stays b o e))), (hW ▸ G.same), fun a h => ?_, by rw [hW]; exact Nat.le_trans G.larger hz, fun a c e => (G.sim a c e).leaves L fun o e => k a o e, fun a h => ?_, hd, fun a h => ?_⟩
  · refine hW ▸ ?_
    rcases h with h | h
    · exact G.fresh a (.inl h)
    · rcases hN a h with h | h
      · exact G.fresh a (.inr h)
      · exact Nat.le_trans G.larger h.1
  · rcases hN a h with h | h
    · exact G.apart a h
    · cases q : σ a with
      | none => rfl
      | some c => exact absurd (G.lt (.inl (not_some q))) (Nat.not_lt.mpr h.1)
  · rcases hN a h with h | h
    · refine Exists.elim (G.old a h) ?_; rintro o e; exact ⟨o, k a o e⟩
    · exact h.2

theorem shared_eq {W : Wd} {s₁ s₃ : Shared} (h1 : s₁.gens = W.s₀.gens ∧ s₁.drawn = W.s₀.drawn ∧ s₁.os = W.s₀.os) (h3 : s₃.gens = W.s₀.gens ∧ s₃.drawn = W.s₀.drawn ∧ s₃.os = W.s₀.os) (h : Heap) (tk : Nat) :
    ({ s₃ with heap := h, toks := tk } : Shared) = { s₁ with heap := h, toks := tk } := by
  obtain ⟨a1, a2, a3, a4, a5⟩ := s₁
  skip
  simp at h1 h3
  simp [h1, h3]

/-- out of it; `τ`: the view from then on; `N`: what was made -/
theorem Good.leave {h₄ : Heap} {tk : Nat} {N : Addr → Prop} (G : Good C σ ls s₁) (hW : C'.W = C.W) (hB : ∀ a, C.own a ∨ C.B a → C'.B a) (hN : ∀ a, N a → s₁.heap.objs.size ≤ a ∧ (C'.own a ∨ C'.B a)) (G' : Ground C' σ' s₃) (S : Step N s₁.heap σ s₃.heap σ')
    (k : ∀ b o, ¬ N b → s₃.heap.get? b = some o → h₄.get? b = some o) (hz : s₃.heap.objs.size ≤ h₄.objs.size)
    (hsub : ∀ b, τ b ≠ none → σ' b ≠ none ∨ N b) (hro : ∀ b c, σ' b = some c → τ b = some c)
    (hsim : Leaves s₃.heap (C'.D σ') h₄ (C.D τ) → ∀ a c, τ a = some c → N a → CellAt h₄ (C.D τ) a c) :
    Good C τ ls { s₃ with heap := h₄, toks := tk } ∧ Step C.own s₁.heap σ h₄ τ ∧ Leaves s₃.heap (C'.D σ') h₄ (C.D τ) := by
  have L : Leaves s₃.heap (C'.D σ') h₄ (C.D τ) := fun b o e hd => by
    refine ⟨k b o (fun h => hd (.inr (hN b h).2)) e, ?_⟩
    rintro (h | h)
    · rcases hsub b h with h | h
      · exact hd (.inl h)
      · exact hd (.inr (hN b h).2)
    · exact hd (.inr (.inr (hB b h)))
  have notN : ∀ b o, s₁.heap.get? b = some o → ¬ N b := fun b o e h => absurd (Heap.lt_size e) (Nat.not_lt.mpr (hN b h).1)
  have S' : Step C.own s₁.heap σ h₄ τ := by
    refine ⟨fun b o e hr _ => k b o (notN b o e) (S.keep b o e hr (notN b o e)), Nat.le_trans S.size hz, fun b h1 h2 => ?_, fun b c hb e hr => ?_⟩
    · rcases hsub b h1 with h | h
      · exact S.grow b h h2
      · exact (hN b h).1
    · rcases S.ro b c hb e hr with h | h
      · exact .inl (hro b c h)
      · right
        cases q : τ b with
        | none => rfl
        | some c' =>
          rcases hsub b (not_some q) with h' | h'
          · exact absurd h h'
          · exact absurd hb (Nat.not_lt.mpr (hN b h').1)
  have hs : s₃.gens = C.W.s₀.gens ∧ s₃.drawn = C.W.s₀.drawn ∧ s₃.os = C.W.s₀.os := (hW ▸ G'.same)
  simp only [shared_eq G.same hs]
  refine ⟨G.change S' (fun b hb o e => k b o (notN b o e) (S.keep b o e (Rw.of_none (G.apart b (.inl hb))) (notN b o e))) (fun b h => ?_) (fun b h => ?_) fun b c e => ?_, S', L⟩
  · rcases hsub b h with h | h
    · have := G'.fresh b (.inl h); rwa [hW] at this
    · exact Nat.le_trans G.larger (hN b h).1
  · cases q : τ b with
    | none => rfl
    | some c =>
      rcases hsub b (not_some q) with h' | h'
      · exact absurd (G'.apart b (.inr (hB b h))) h'
      · exact absurd (G.toGround.lt (.inr h)) (Nat.not_lt.mpr (hN b h').1)
  · by_cases q : N b
    · exact hsim L b c e q
    · have hb : σ' b = some c := by
        cases q2 : σ' b with
        | some c' => have := hro b c' q2; rw [e] at this; exact this.symm
        | none =>
          rcases hsub b (not_some e) with h | h
          · exact absurd q2 h
          · exact absurd h q
      exact (G'.sim b c hb).leaves L fun o eo => k b o q eo

theorem Good.changeX {X : List Addr} {h' : Heap} {tk : Nat} (G : Good C σ ls s) (S : Step C.own s.heap σ h' τ)
    (own : ∀ b, C.own b → ∀ o, s.heap.get? b = some o → h'.get? b = some o)
    (sub : ∀ a, τ a ≠ none → C.W.s₀.heap.objs.size ≤ a) (ap : ∀ a, C.own a ∨ C.B a → τ a = none)
    (hX : ∀ a ∈ X, s.heap.objs.size ≤ a ∧ (∃ o, h'.get? a = some o) ∧ τ a = none)
    (sim : ∀ a c, τ a = some c → CellAt h' ((C.more X).D τ) a c) : Good (C.more X) τ ls { s with heap := h', toks := tk } := by
  have keepOB : ∀ b, C.own b ∨ C.B b → ∀ o, s.heap.get? b = some o → h'.get? b = some o := fun b hb o e => by
    rcases hb with hb | hb
    · exact own b hb o e
    · exact S.keep b o e (Rw.of_none (G.apart b (.inr hb))) fun ho => G.apart2 b ho hb
  have L₀ := G.leaves S
  have L : Leaves s.heap (C.D σ) h' ((C.more X).D τ) := fun b o e hd => by
    refine ⟨(L₀ b o e hd).1, fun h => ?_⟩
    rcases (D_more b).mp h with h | h
    · exact (L₀ b o e hd).2 h
    · exact absurd (Heap.lt_size e) (Nat.not_lt.mpr (hX b h).1)
  have F := G.fr
  refine Exists.elim F.ns ?_; rintro m hm
  refine ⟨⟨fun b o e => ?_, G.same, fun a h => ?_, Nat.le_trans G.larger S.size, sim, fun a h => ?_, fun a h hb => ?_, fun a h => ?_⟩,
    ⟨F.kind, F.glob, F.blt, ⟨m, hm.at' fun o e => keepOB _ (.inl F.ownL) o e⟩, F.ownL, fun x c e => ?_, F.inj, fun i x d e1 e2 e3 => ?_, F.nodup, F.has⟩⟩
  · have hd : ¬ C.D σ b := fun hd => absurd (Heap.lt_size e) (Nat.not_lt.mpr (G.fresh b hd))
    exact (L₀ b o (G.stays b o e) hd).1
  · rcases (D_more a).mp h with (h | h) | h
    · exact sub a h
    · exact G.fresh a (.inr h)
    · exact Nat.le_trans G.larger (hX a h).1
  · rcases h with h | h | h
    · exact ap a (.inl h)
    · exact ap a (.inr h)
    · exact (hX a h).2.2
  · rcases hb with hb | hb
    · exact G.apart2 a h hb
    · exact absurd (G.toGround.lt (.inr (.inl h))) (Nat.not_lt.mpr (hX a hb).1)
  · rcases h with h | h | h
    · refine Exists.elim (G.old a (.inl h)) ?_; rintro o e; exact ⟨o, keepOB a (.inl h) o e⟩
    · refine Exists.elim (G.old a (.inr h)) ?_; rintro o e; exact ⟨o, keepOB a (.inr h) o e⟩
    · exact (hX a h).2.1
  · obtain ⟨h1, h2, v, o, hq1⟩ := F.cells x c e
    exact ⟨h1.imp id .inl, h2, v, o, keepOB c h1 o hq1.1, hq1.2⟩
  · obtain ⟨v, hq0⟩ := F.val i x d e1 e2 e3
    refine ⟨v, hq0.1.at fun b hb o e => ?_, hq0.2.leaves L⟩
    rcases hb with rfl | ⟨y, hy⟩
    · exact keepOB _ (.inl F.ownL) o e
    · exact keepOB b (F.cells y b hy).1 o e

theorem Good.leaveX {X : List Addr} {h₄ : Heap} {tk : Nat} {N : Addr → Prop} (G : Good C σ ls s₁) (hW : C'.W = C.W) (hB : ∀ a, C.own a ∨ C.B a → C'.B a) (hN : ∀ a, N a → s₁.heap.objs.size ≤ a ∧ (C'.own a ∨ C'.B a)) (G' : Ground C' σ' s₃) (S : Step N s₁.heap σ s₃.heap σ')
    (k : ∀ b o, ¬ N b → s₃.heap.get? b = some o → h₄.get? b = some o) (hz : s₃.heap.objs.size ≤ h₄.objs.size)
    (hsub : ∀ b, τ b ≠ none → σ' b ≠ none ∨ N b) (hro : ∀ b c, σ' b = some c → τ b = some c) (hX : ∀ a ∈ X, N a ∧ (∃ o, h₄.get? a = some o) ∧ τ a = none)
    (hsim : Leaves s₃.heap (C'.D σ') h₄ ((C.more X).D τ) → ∀ a c, τ a = some c → N a → CellAt h₄ ((C.more X).D τ) a c) :
    Good (C.more X) τ ls { s₃ with heap := h₄, toks := tk } ∧ Step C.own s₁.heap σ h₄ τ ∧ Leaves s₃.heap (C'.D σ') h₄ ((C.more X).D τ) := by
  have L : Leaves s₃.heap (C'.D σ') h₄ ((C.more X).D τ) := fun b o e hd => by
    refine ⟨k b o (fun h => hd (.inr (hN b h).2)) e, fun h => ?_⟩
    rcases (D_more b).mp h with (h | h) | h
    · rcases hsub b h with h | h
      · exact hd (.inl h)
      · exact hd (.inr (hN b h).2)
    · exact hd (.inr (.inr (hB b h)))
    · exact hd (.inr (hN b (hX b h).1).2)
  have notN : ∀ b o, s₁.heap.get? b = some o → ¬ N b := fun b o e h => absurd (Heap.lt_size e) (Nat.not_lt.mpr (hN b h).1)
  have S' : Step C.own s₁.heap σ h₄ τ := by
    refine ⟨fun b o e hr _ => k b o (notN b o e) (S.keep b o e hr (notN b o e)), Nat.le_trans S.size hz, fun b h1 h2 => ?_, fun b c hb e hr => ?_⟩
    · rcases hsub b h1 with h | h
      · exact S.grow b h h2
      · exact (hN b h).1
    · rcases S.ro b c hb e hr with h | h
      · exact .inl (hro b c h)
      · right
        cases q : τ b with
        | none => rfl
        | some c' =>
          rcases hsub b (not_some q) with h' | h'
          · exact absurd h h'
          · exact absurd hb (Nat.not_lt.mpr (hN b h').1)
  have hs : s₃.gens = C.W.s₀.gens ∧ s₃.drawn = C.W.s₀.drawn ∧ s₃.os = C.W.s₀.os := (hW ▸ G'.same)
  simp only [shared_eq G.same hs]
  refine ⟨G.changeX S' (fun b hb o e => k b o (notN b o e) (S.keep b o e (Rw.of_none (G.apart b (.inl hb))) (notN b o e))) (fun b h => ?_) (fun b h => ?_) (fun a h => ⟨(hN a (hX a h).1).1, (hX a h).2⟩) fun b c e => ?_, S', L⟩
  · rcases hsub b h with h | h
    · have := G'.fresh b (.inl h); rwa [hW] at this
    · exact Nat.le_trans G.larger (hN b h).1
  · cases q : τ b with
    | none => rfl
    | some c =>
      rcases hsub b (not_some q) with h' | h'
      · exact absurd (G'.apart b (.inr (hB b h))) h'
      · exact absurd (G.toGround.lt (.inr h)) (Nat.not_lt.mpr (hN b h').1)
  · by_cases q : N b
    · exact hsim L b c e q
    · have hb : σ' b = some c := by
        cases q2 : σ' b with
        | some c' => have := hro b c' q2; rw [e] at this; exact this.symm
        | none =>
          rcases hsub b (not_some e) with h | h
          · exact absurd q2 h
          · exact absurd h q
      exact (G'.sim b c hb).leaves L fun o eo => k b o q eo
end
end Mine
end

section

open PySem PyProof.Rows
namespace Mine

noncomputable def relab (outer names : List (Str × NameKind)) : List (Str × NameKind) := names.map fun (n, k) => if (k == .free && outer.lookup n == some .cell) then (n, .cell) else (n, k)
noncomputable def Sc.comp (S : Sc) (scope : Scope) : Sc := { names := relab S.names scope.names, vars := S.vars }
/-- a comprehension's names; ys: its targets -/
noncomputable def compOk (S : Sc) (scope : Scope) (ys : List Str) : Bool :=
  scope.kind == .function && ys.all (fun y => scope.names.lookup y == some .local) &&
  scope.names.all fun (n, k) => k != .cell && scope.names.lookup n == some k && (k != .free || S.names.lookup n == some .cell || S.names.lookup n == some .free) && (k != .local || ys.contains n || !S.vars.contains n)

noncomputable def closOf (cells : List (Str × Addr)) : List (Str × NameKind) → List (Str × Addr) → Option (List (Str × Addr))
  | [], acc => some acc
  | (n, k) :: r, acc => if k == .free then (match cells.lookup n with | some c => closOf cells r ((n, c) :: acc) | none => none) else closOf cells r acc

theorem closureFor_of {scope : Scope} {env : Env} {cl : List (Str × Addr)} (h : closOf env.cells scope.names [] = some cl) : closureFor scope env = pure cl := by
  dsimp only [closureFor]
  have key : ∀ (names : List (Str × NameKind)) (acc : List (Str × Addr)), closOf env.cells names acc = some cl →
      (forIn names acc fun x r => (match x with
        | (name, kind) => if (kind == .free) = true then do let c ← cellOf env name; pure (ForInStep.yield ((name, c) :: r)) else pure (ForInStep.yield r)) : Sem (List (Str × Addr))) = pure cl := by
    intro names
    induction names with
    | nil => intro acc h; replace h := Option.some.inj h; subst h; rfl
    | cons x r ih =>
      intro acc h
      skip
      simp only [List.forIn_cons]
      simp only [closOf] at h
      split at h
      · rename_i hk
        split at h
        · rename_i c hc
          have : cellOf env x.1 = pure c := by unfold cellOf; rw [hc]
          simp only [hk, if_true, this, pure_bind]
          exact ih _ h
        · exact nn h
      · rename_i hk
        simp only [hk, if_false, pure_bind]
        exact ih _ h
  have := key scope.names [] h
  simp only [this, pure_bind]

theorem closOf_mem (cells : List (Str × Addr)) : ∀ (names : List (Str × NameKind)) (acc cl : List (Str × Addr)), closOf cells names acc = some cl → (∀ n c, acc.lookup n = some c → cells.lookup n = some c) → ∀ n c, cl.lookup n = some c → cells.lookup n = some c
  | [], acc, cl, h, ha, n, c, e => by simp [closOf] at h; subst h; exact ha n c e
  | (m, k) :: r, acc, cl, h, ha, n, c, e => by
    simp only [closOf] at h
    split at h
    · split at h
      · rename_i c' hc
        refine closOf_mem cells r _ cl h (fun n' c'' e' => ?_) n c e
        rw [List.lookup_cons] at e'
        split at e'
        · rename_i q; cases e'; rw [beq_iff_eq.mp q]; exact hc
        · exact ha n' c'' e'
      · cases h
    · exact closOf_mem cells r acc cl h ha n c e
theorem closOf_has (cells : List (Str × Addr)) : ∀ (names : List (Str × NameKind)) (acc cl : List (Str × Addr)), closOf cells names acc = some cl → (∀ n, ((acc.lookup n).isSome = true ∨ names.lookup n = some .free) → (cl.lookup n).isSome = true)
  | [], acc, cl, h, n, hn => by simp [closOf] at h; subst h; simpa using hn
  | (m, k) :: r, acc, cl, h, n, hn => by
    simp only [closOf] at h
    split at h
    · rename_i hk
      split at h
      · rename_i c' hc
        refine closOf_has cells r _ cl h n ?_
        by_cases q : n = m
        · subst q; left; simp [List.lookup_cons]
        · have hb : (n == m) = false := by simpa using q
          rcases hn with hn | hn
          · left; rw [List.lookup_cons, hb]; exact hn
          · right; rw [List.lookup_cons, hb] at hn; exact hn
      · cases h
    · rename_i hk
      refine closOf_has cells r acc cl h n ?_
      rcases hn with hn | hn
      · exact .inl hn
      · by_cases q : n = m
        · subst q; simp [List.lookup_cons] at hn; subst hn; simp at hk
        · have hb : (n == m) = false := by simpa using q
          right; rw [List.lookup_cons, hb] at hn; exact hn
theorem closOf_some (cells : List (Str × Addr)) : ∀ (names : List (Str × NameKind)) (acc : List (Str × Addr)), (∀ n, (n, NameKind.free) ∈ names → ∃ c, cells.lookup n = some c) → ∃ cl, closOf cells names acc = some cl
  | [], acc, _ => ⟨acc, rfl⟩
  | (m, k) :: r, acc, h => by
    simp only [closOf]
    split
    · rename_i hk
      have hk' : k = .free := by simpa using hk
      subst hk'
      obtain ⟨c, hc⟩ := h m (.head _)
      refine hc ▸ ?_
      exact closOf_some cells r _ fun n hn => h n (.tail _ hn)
    · exact closOf_some cells r acc fun n hn => h n (.tail _ hn)

theorem relab_lookup (outer : List (Str × NameKind)) : ∀ (names : List (Str × NameKind)) (n : Str), (relab outer names).lookup n = (names.lookup n).map fun k => if (k == .free && outer.lookup n == some .cell) then .cell else k
  | [], n => rfl
  | (m, k) :: r, n => by
    have ih := relab_lookup outer r n
    unfold relab at *
    simp only [List.map_cons]
    by_cases q : n = m
    · subst q
      split <;> rename_i h <;> simp only [List.lookup_cons, beq_self_eq_true, Option.map_some]
      · rw [if_pos h]
      · rw [if_neg h]
    · have hb : (n == m) = false := by simpa using q
      split <;> simp only [List.lookup_cons, hb] <;> exact ih

theorem nodup_inj {α : Type} : ∀ {l : List α}, l.Nodup → ∀ {i j : Nat} {x : α}, l[i]? = some x → l[j]? = some x → i = j
  | [], _, i, j, x, h, _ => by simp at h
  | a :: r, hn, i, j, x, h1, h2 => by
    obtain ⟨ha, hr⟩ := List.nodup_cons.mp hn
    cases i with
    | zero =>
      cases j with
      | zero => rfl
      | succ j =>
        simp at h1 h2; subst h1
        exact absurd (List.mem_iff_getElem?.mpr ⟨j, h2⟩) ha
    | succ i =>
      cases j with
      | zero =>
        simp at h1 h2; subst h2
        exact absurd (List.mem_iff_getElem?.mpr ⟨i, h1⟩) ha
      | succ j => simp at h1 h2; rw [nodup_inj hr h1 h2]
noncomputable def Cx.comp (C : Cx) (scope : Scope) (cl : List (Str × Addr)) (L acc : Addr) (wr : List Addr) : Cx :=
  { W := C.W, A := C.A, env := compEnvC scope cl L C.env, vars := C.vars, own := fun a => a = L, B := fun a => (C.own a ∨ C.B a) ∨ a = acc ∨ a ∈ wr }
noncomputable def Ls.erase (ls : Ls) (ys : List Nat) : Ls := fun j => if j ∈ ys then none else ls j

section
variable {C : Cx} {S : Sc} {ls : Ls} {σ : View} {s : Shared} {scope : Scope} {cl : List (Str × Addr)} {L acc : Addr} {wr : List Addr} {ys : List Str} {xs : List Nat}

theorem comp_names (hS : S.Of C) (hk : C.env.scope.kind = .function) : (relabel scope C.env).names = relab S.names scope.names := by
  dsimp only [relabel, relab]
  simp only [hk, kindOf_eq hS, beq_self_eq_true, Bool.and_true]
theorem comp_of (hS : S.Of C) (hk : C.env.scope.kind = .function) : (S.comp scope).Of (C.comp scope cl L acc wr) := ⟨comp_names hS hk, hS.vars⟩

theorem compOk_parts (h : compOk S scope ys = true) : scope.kind = .function ∧ (∀ y ∈ ys, scope.names.lookup y = some .local) ∧
    ∀ n k, (n, k) ∈ scope.names → k ≠ .cell ∧ scope.names.lookup n = some k ∧ (k = .free → S.names.lookup n = some .cell ∨ S.names.lookup n = some .free) ∧ (k = .local → n ∈ ys ∨ n ∉ S.vars) := by
  dsimp only [compOk] at h
  simp only [Bool.and_eq_true, beq_iff_eq, List.all_eq_true, Bool.or_eq_true, bne_iff_ne, Prod.forall] at h
  refine ⟨h.1.1, h.1.2, fun n k hm => ?_⟩
  obtain ⟨⟨⟨h1, h2⟩, h3⟩, h4⟩ := h.2 n k hm
  refine ⟨h1, h2, fun hk => ?_, fun hk => ?_⟩
  · rcases h3 with (h3 | h3) | h3
    · exact absurd hk h3
    · exact .inl h3
    · exact .inr h3
  · rcases h4 with (h4 | h4) | h4
    · exact absurd hk h4
    · exact .inl (by simpa using h4)
    · exact .inr (by simpa using h4)

theorem mem_of_lookup' {α : Type} {l : List (Str × α)} {n : Str} {c : α} (h : l.lookup n = some c) : (n, c) ∈ l := mem_of_lookup h

/-- the comprehension's frame -/
theorem comp_fr (hS : S.Of C) (G : Good C σ ls s) (h : compOk S scope ys = true) (hcl : closOf C.env.cells scope.names [] = some cl) {h₄ : Heap} (k : ∀ b o, s.heap.get? b = some o → h₄.get? b = some o)
    (hL : s.heap.objs.size ≤ L) (hns : ∃ m, h₄.Ns L m) (hxs : ∀ y ∈ ys, ∃ i ∈ xs, S.vars[i]? = some y) (hO : ∀ a, (C.comp scope cl L acc wr).own a ∨ (C.comp scope cl L acc wr).B a → (C.own a ∨ C.B a) ∨ s.heap.objs.size ≤ a) :
    FrOK (C.comp scope cl L acc wr) σ (ls.erase xs) h₄ := by
  obtain ⟨hk, hy, hn⟩ := compOk_parts h
  have F := G.fr
  have hkind : ∀ x, (C.comp scope cl L acc wr).env.kindOf x = (scope.names.lookup x).map fun k => if (k == .free && S.names.lookup x == some .cell) then .cell else k := by
    intro x
    rw [kindOf_eq (comp_of hS F.kind)]
    exact relab_lookup S.names scope.names x
  have free_of : ∀ x, ((C.comp scope cl L acc wr).env.kindOf x = some .cell ∨ (C.comp scope cl L acc wr).env.kindOf x = some .free) → scope.names.lookup x = some .free := by
    intro x hx
    rw [hkind x] at hx
    cases hq : scope.names.lookup x with
    | none => simp only [hq] at hx; simp at hx
    | some k' =>
      have hm := hn x k' (mem_of_lookup' hq)
      simp only [hq] at hx
      simp only [Option.map_some, Option.some.injEq] at hx
      by_cases hf : k' = .free
      · rw [hf]
      · exfalso
        have : (k' == NameKind.free) = false := by simpa using hf
        simp only [this, Bool.false_and, Bool.false_eq_true, if_false] at hx
        rcases hx with hx | hx
        · exact hm.1 hx
        · exact hf hx
  have clmem := closOf_mem C.env.cells scope.names [] cl hcl (by intro n c e; exact nn e)
  have clhas := closOf_has C.env.cells scope.names [] cl hcl
  refine ⟨by simp [Cx.comp, compEnvC, relabel, hk], F.glob, F.blt, hns, rfl, fun x c e => ?_, fun x y c e1 e2 => F.inj x y c (clmem x c e1) (clmem y c e2), fun i x d e1 e2 e3 => ?_, F.nodup, fun x hx => ?_⟩
  · obtain ⟨h1, h2, v, hv⟩ := F.cells x c (clmem x c e)
    refine ⟨.inr (.inl h1), ?_, v, hv.keeps k⟩
    refine Exists.elim hv ?_; rintro o hq2
    exact fun q => absurd (Heap.lt_size hq2.1) (Nat.not_lt.mpr (((show c = L from q) ▸ hL)))
  · have hi : i ∉ xs ∧ ls i = some d := by
      unfold Ls.erase at e3
      split at e3
      · exact nn e3
      · rename_i q; exact ⟨q, e3⟩
    have e1' : S.vars[i]? = some x := (hS.vars ▸ e1)
    have hloc : (C.comp scope cl L acc wr).env.kindOf x ≠ some .local := by
      intro hx
      rw [hkind x] at hx
      cases hq : scope.names.lookup x with
      | none => rw [hq] at hx; exact nn hx
      | some k' =>
        replace hx := hq ▸ hx
        simp only [Option.map_some, Option.some.injEq] at hx
        have hk' : k' = .local := by
          split at hx
          · cases hx
          · exact hx
        subst hk'
        rcases (hn x _ (mem_of_lookup' hq)).2.2.2 rfl with h1 | h1
        · refine Exists.elim (hxs x h1) ?_; rintro j hq1
          have : i = j := by
            have hnd : S.vars.Nodup := (hS.vars ▸ F.nodup)
            exact nodup_inj hnd e1' hq1.2
            
          exact hi.1 (this ▸ hq1.1)
        · exact h1 (List.mem_iff_getElem?.mpr ⟨i, e1'⟩)
    have hcf : (C.comp scope cl L acc wr).env.kindOf x = some .cell ∨ (C.comp scope cl L acc wr).env.kindOf x = some .free := by
      rcases e2 with e2 | e2 | e2
      · exact absurd e2 hloc
      · exact .inl e2
      · exact .inr e2
    have hfr := free_of x hcf
    have hout := (hn x _ (mem_of_lookup' hfr)).2.2.1 rfl
    have hout' : C.env.kindOf x = some .cell ∨ C.env.kindOf x = some .free := by rw [kindOf_eq hS]; exact hout
    obtain ⟨v, hq0⟩ := F.val i x d e1 (.inr hout') hi.2
    refine ⟨v, .inr ⟨hcf, ?_⟩, ?_⟩
    · rcases hq0.1 with ⟨hl, _⟩ | ⟨_, c, hc, hcell⟩
      · rcases hout' with h1 | h1 <;> rw [h1] at hl <;> cases hl
      · have := clhas x (.inr hfr)
        refine Exists.elim (Option.isSome_iff_exists.mp this) ?_; rintro c' hc'
        have := clmem x c' hc'
        rw [hc] at this; cases this
        exact ⟨c, hc', hcell.keeps k⟩
    · refine hq0.2.leaves fun b o e hd => ⟨k b o e, ?_⟩
      rintro (h1 | h1)
      · exact hd (.inl h1)
      · rcases hO b h1 with h1 | h1
        · exact hd (.inr h1)
        · exact absurd (Heap.lt_size e) (Nat.not_lt.mpr h1)
  · have := clhas x (.inr (free_of x hx))
    exact Option.isSome_iff_exists.mp this
end
end Mine
end

section

open PySem PyProof.Rows
namespace Mine
theorem ns_unique {h : Heap} {a : Addr} {m m' : Str → Option Value} (x : h.Ns a m) (y : h.Ns a m') (n : Str) : m n = m' n := by
  refine Exists.elim x fun o hx => ?_; obtain ⟨es, ep, ho, hd, hq1⟩ := hx
  refine Exists.elim y fun o' hx => ?_; obtain ⟨es', ep', ho', hd', hq0⟩ := hx
  cases Eq.trans (Eq.symm ho) ho'
  rw [hd] at hd'; cases hd'
  simp only [← hq1.2, ← hq0.2]
section
variable {C : Cx} {S : Sc} {ls : Ls} {σ : View} {s : Shared} {x : Str} {i : Nat} {v : Value} {d : V}

theorem store_good {h' : Heap} {tk : Nat} {L : Addr} (G : Good C σ ls s) (hL : C.own L ∨ C.B L) (hO : C.own L) (hi : C.vars[i]? = some x) (hs : Heap.SameBut L s.heap h') (r : Real s.heap (C.D σ) v d)
    (ex : ∃ o, h'.get? L = some o) (hx : HasVal h' C.env x v) (hns : ∃ m, h'.Ns C.env.locals m) (hcell : ∀ y c, C.env.cells.lookup y = some c → ∃ v, h'.IsCell c v)
    (hv : ∀ y w, y ≠ x → HasVal s.heap C.env y w → HasVal h' C.env y w) : Good C σ (ls.set i d) { s with heap := h', toks := tk } ∧ Step C.own s.heap σ h' σ := by
  have S : Step C.own s.heap σ h' σ := ⟨fun b o e _ ho => hs.extBut b o (fun q => ho (q ▸ hO)) e, Nat.le_of_eq hs.1.symm, fun _ h1 h2 => absurd h2 h1, fun _ _ _ e _ => .inl e⟩
  have Lv := G.leaves S
  have F := G.fr
  refine ⟨⟨⟨fun b o e => ?_, G.same, G.fresh, Nat.le_trans G.larger S.size, fun a c e => (G.sim a c e).leaves Lv fun o e' => ?_, G.apart, G.apart2, fun a h => ?_⟩,
    ⟨F.kind, F.glob, F.blt, hns, F.ownL, fun y c e => ?_, F.inj, fun j y d' e1 e2 e3 => ?_, F.nodup, F.has⟩⟩, S⟩
  · have hd : ¬ C.D σ b := fun hd => absurd (Heap.lt_size e) (Nat.not_lt.mpr (G.fresh b hd))
    exact (Lv b o (G.stays b o e) hd).1
  · refine hs.extBut a o (fun q => ?_) e'
    subst q
    have := G.apart a hL; rw [e] at this; exact nn (Eq.symm this)
  · by_cases q : a = L
    · exact q ▸ ex
    · refine Exists.elim (G.old a h) ?_; rintro o e; exact ⟨o, hs.extBut a o q e⟩
  · have hq1 := F.cells y c e
    exact ⟨hq1.1, hq1.2.1, hcell y c e⟩
  · unfold Ls.set at e3
    split at e3
    · rename_i q
      cases e3; subst q
      rw [hi] at e1; cases e1
      exact ⟨v, hx, r.leaves Lv⟩
    · rename_i q
      refine Exists.elim (F.val j y d' e1 e2 e3) ?_; rintro w hq0
      exact ⟨w, hv y w (fun e => q (nodup_inj F.nodup e1 ((e ▸ hi)))) hq0.1, hq0.2.leaves Lv⟩

theorem store (G : Good C σ ls s) (hi : C.vars[i]? = some x) (hk : C.env.kindOf x = some .local ∨ (C.env.kindOf x = some .cell ∧ ∀ c, C.env.cells.lookup x = some c → C.own c)) (r : Real s.heap (C.D σ) v d) {Q : Unit → Shared → Prop} {E : Value → Shared → Prop}
    (h : ∀ s', Good C σ (ls.set i d) s' → Step C.own s.heap σ s'.heap σ → Q () s') : wpAny (model C.W.prog C.W.w) C.A (storeName C.env x v) Q E s := by
  have F := G.fr
  rcases hk with hk | ⟨hk, hown⟩
  · refine Exists.elim F.ns ?_; rintro m hm
    refine wpAny_storeName_local hk hm (fun h' hn' hs' => ?_) (by rw [F.kind]; rfl)
    have := store_good (tk := s.toks + 1) G (.inl F.ownL) F.ownL hi hs' r (by refine Exists.elim hn' fun o hx => ?_; obtain ⟨_, _, hq1⟩ := hx; exact ⟨o, hq1.1⟩) (.inl ⟨hk, _, hn', by simp⟩) ⟨_, hn'⟩ (fun y c e => ?_) fun y w hy hw => ?_
    · exact h _ this.1 this.2
    · obtain ⟨_, h2, v', hv'⟩ := F.cells y c e
      exact ⟨v', hv'.sameBut hs' h2⟩
    · rcases hw with ⟨hl, m', hm', e⟩ | ⟨hc, c, hc', hcell⟩
      · refine .inl ⟨hl, _, hn', ?_⟩
        simp only [hy, if_false]
        refine e ▸ ?_
        exact ns_unique hm hm' y
      · exact .inr ⟨hc, c, hc', hcell.sameBut hs' (F.cells y c hc').2.1⟩
  · refine Exists.elim (F.has x (.inl hk)) ?_; rintro c hc
    obtain ⟨h1, h2, v₀, hv₀⟩ := F.cells x c hc
    refine Exists.elim F.ns ?_; rintro m hm
    refine wpAny_storeName_cell F.kind hk hc hv₀ fun h' hc' hs' => ?_
    have := store_good (tk := s.toks) G h1 (hown c hc) hi hs' r (by refine Exists.elim hc' ?_; rintro o hq0; exact ⟨o, hq0.1⟩) (.inr ⟨.inl hk, c, hc, hc'⟩) ⟨m, hm.sameBut hs' (Ne.symm h2)⟩ (fun y c' e => ?_) fun y w hy hw => ?_
    · exact h _ this.1 this.2
    · by_cases q : c' = c
      · subst q; exact ⟨_, hc'⟩
      · obtain ⟨_, _, v', hv'⟩ := F.cells y c' e
        exact ⟨v', hv'.sameBut hs' q⟩
    · rcases hw with ⟨hl, m', hm', e⟩ | ⟨hcc, c', hc'', hcell⟩
      · exact .inl ⟨hl, m', hm'.sameBut hs' (Ne.symm h2), e⟩
      · refine .inr ⟨hcc, c', hc'', hcell.sameBut hs' fun q => hy ?_⟩
        subst q
        exact F.inj y x _ hc'' hc

/-- what an assignment to a target does -/
noncomputable def Asg (C : Cx) (tgt : Expr) (Rp : Heap → (Addr → Prop) → Value → V → Prop) (up : V → Ls → Ls) : Prop :=
  ∀ (σ : View) (ls : Ls) (s : Shared) (v : Value) (x : V), Good C σ ls s → Rp s.heap (C.D σ) v x → wpAny (model C.W.prog C.W.w) C.A (assign tgt C.env v) (fun _ s' => Good C σ (up x ls) s' ∧ Step C.own s.heap σ s'.heap σ) (fun _ _ => False) s
noncomputable def rpOf : Tg → Heap → (Addr → Prop) → Value → V → Prop
  | .one _ => Real
  | .two _ _ => RealP
noncomputable def Stor (C : Cx) (x : Str) : Prop := C.env.kindOf x = some .local ∨ (C.env.kindOf x = some .cell ∧ ∀ c, C.env.cells.lookup x = some c → C.own c)
theorem asg1 {px : Pos} (hi : C.vars[i]? = some x) (hk : Stor C x) : Asg C (.Name x px) Real (Tg.up (.one i)) := fun _ _ _ _ _ G r => wpAny_assign_Name (store G hi hk r fun _ G' S' => ⟨G', S'⟩)
theorem asg2 {px py pt : Pos} {n1 : Nat} {y : Str} {j : Nat} (hh : C.A.handled = none) (hi : C.vars[i]? = some x) (hk : Stor C x) (hj : C.vars[j]? = some y) (hk' : Stor C y) : Asg C (.Tuple [.Name x px, .Name y py] n1 pt) RealP (Tg.up (.two i j)) := by
  rintro σ ls s v z G ⟨T, v1, v2, p, q, rfl, ht, rfl, r1, r2⟩
  have hu : wpAny (model C.W.prog C.W.w) C.A (unpackItems (.ref T) (#[v1, v2] : Array Value).size none) (fun vs s' => s.heap.objs.size ≤ s'.heap.objs.size ∧ ∃ h', vs = [v1, v2] ∧ s' = { s with heap := h' } ∧ Heap.ExtBut s.heap.objs.size s.heap h') (fun _ s' => s.heap.objs.size ≤ s'.heap.objs.size ∧ False) s :=
    wpAny_size (wpAny_unpackItems_tuple hh ht fun h' hx => ⟨h', rfl, rfl, hx⟩)
  skip
  refine wpAny_bind (wpAny_standAt ?_)
  show wpAny _ _ (unpack (.ref T) (assignEach [.Name x px, .Name y py] C.env)) _ _ s
  skip
  skip
  refine wpAny_bind (wpAny_holding (wpAny_mono hu (?_) fun _ _ x => x.2))
  rintro vs s' ⟨hz, h', e1, e2, hx⟩
  subst e1; subst e2
  obtain ⟨G₁, S₁, L₁⟩ := G.quietW (wr := []) (tk := s.toks) (h' := h') (fun _ h => nomatch h) (fun h => ((List.not_mem_nil h).elim)) (fun _ _ _ h => nomatch h) hz (fun b o _ e => hx b o (Nat.ne_of_lt (Heap.lt_size e)) e) (fun _ h => nomatch h)
  have S₁ := S₁ C.own fun _ h => nomatch h
  show wpAny _ _ (do holding [v2] (assign (.Name x px) C.env v1); do holding [] (assign (.Name y py) C.env v2); pure ()) _ _ _
  refine wpAny_bind (wpAny_holding (wpAny_assign_Name (store G₁ hi hk (r1.leaves L₁) fun s₂ G₂ S₂ => ?_)))
  refine wpAny_bind (wpAny_holding (wpAny_assign_Name (store G₂ hj hk' ((r2.leaves L₁).step G₁ S₂) fun s₃ G₃ S₃ => wpAny_pure ⟨G₃, (S₁.trans S₂).trans S₃⟩)))
end
end Mine
end

section

open PySem PyProof.Rows
namespace Mine
section
variable {C : Cx} {S : Sc} {ls : Ls} {σ₁ : View} {s₁ : Shared}

theorem It.item' {tgt : Expr} {Rp : Heap → (Addr → Prop) → Value → V → Prop} {xs : List V} {it : Addr} {wr fp : List Addr} {P : Nat → Nat → Heap → Value → Prop} {St : Nat → Heap → Prop} {σ₀ : View} (I : It C s₁ σ₀ tgt Rp it wr xs fp P St) {i : Nat} {s : Shared} {Q : Value → Shared → Prop} {K : Option Value → Shared → Prop} {E : Value → Shared → Prop} (hi : i < xs.length) (st : St i s.heap) (hK : ∀ v s₂, wpAny (model C.W.prog C.W.w) C.A (letOwnedTupleGo tgt (.ref it) v) (fun _ s₃ => Q v s₃) (fun _ _ => False) s₂ → K (some v) s₂)
    (h : ∀ v h' tk, P i s.heap.objs.size h' v → St (i + 1) h' → (∀ b o, b ∉ wr → s.heap.get? b = some o → h'.get? b = some o) → s.heap.objs.size ≤ h'.objs.size → Q v { s with heap := h', toks := tk }) :
    wpAny (model C.W.prog C.W.w) C.A (pyNext (.ref it)) K E s := by
  refine wpAny_mono (wpAny_size (I.item i s (fun v s' => ∃ h' tk, s' = { s with heap := h', toks := tk } ∧ P i s.heap.objs.size h' v ∧ St (i + 1) h' ∧ ∀ b o, b ∉ wr → s.heap.get? b = some o → h'.get? b = some o) hi st fun v h' tk a b c => ⟨h', tk, rfl, a, b, c⟩)) ?_ fun _ _ h => h.2.elim
  rintro r s₂ ⟨hz, v, e, hw⟩
  subst e
  refine hK v s₂ (wpAny_mono (wpAny_size hw) ?_ fun _ _ h => h.2)
  rintro _ s₃ ⟨hz', h', tk, rfl, a, b, c⟩
  exact h v h' tk a b c (Nat.le_trans hz hz')
theorem It.done' {tgt : Expr} {Rp : Heap → (Addr → Prop) → Value → V → Prop} {xs : List V} {it : Addr} {wr fp : List Addr} {P : Nat → Nat → Heap → Value → Prop} {St : Nat → Heap → Prop} {σ₀ : View} (I : It C s₁ σ₀ tgt Rp it wr xs fp P St) {s : Shared} {Q : Option Value → Shared → Prop} {E : Value → Shared → Prop} (st : St xs.length s.heap)
    (h : ∀ h' tk, (∀ b o, b ∉ wr → s.heap.get? b = some o → h'.get? b = some o) → s.heap.objs.size ≤ h'.objs.size → Q none { s with heap := h', toks := tk }) :
    wpAny (model C.W.prog C.W.w) C.A (pyNext (.ref it)) Q E s := by
  refine wpAny_mono (wpAny_size (I.done s (fun r s' => ∃ h' tk, r = none ∧ s' = { s with heap := h', toks := tk } ∧ ∀ b o, b ∉ wr → s.heap.get? b = some o → h'.get? b = some o) E st fun h' tk a => ⟨h', tk, rfl, rfl, a⟩)) ?_ fun e s' h => h.2
  rintro r s' ⟨hz, h', tk, rfl, rfl, a⟩
  exact h h' tk a hz

noncomputable def Tg.idx : Tg → List Nat
  | .one i => [i]
  | .two i j => [i, j]
theorem up_erase (t : Tg) (ls : Ls) (v : V) : t.up v (ls.erase t.idx) = t.up v ls := by
  funext k
  cases t <;> simp only [Tg.up, Tg.idx, Ls.set, Ls.erase, List.mem_cons, List.not_mem_nil, or_false]
  · split <;> rfl
  · rename_i i j
    by_cases q : k = j
    · simp [q]
    · by_cases r : k = i <;> simp [q, r]
theorem up_up (t : Tg) (ls : Ls) (v w : V) : t.up v (t.up w ls) = t.up v ls := by
  funext k
  cases t <;> simp only [Tg.up, Ls.set]
  · split <;> rfl
  · split
    · rfl
    · split <;> rfl
/-- the tests of a comprehension -/
noncomputable def testsT (ifs : List Expr) (env : Env) : Sem Bool := forIn ifs true fun c r => if r = true then do let ok ← isTrue c env (eval c env); pure (ForInStep.yield ok) else pure (ForInStep.yield r)

theorem compLoop_gen {prog : Program} {w : World} {A : Around} {R : Result → Shared → Prop} {s : Shared} {elt target iter : Expr} {ifs : List Expr} {scope : Scope} {pos : Pos} {it acc : Value} {env : Env} (I : Nat → Shared → Prop)
    (turn : ∀ n s, I n s → wpAny (model prog w) A (pyNext it) (fun r s₁ => match r with
      | none => R (.ok .next) s₁
      | some v => wpAny (model prog w) A (letOwnedTupleGo target it v) (fun _ s₁ => wpAny (model prog w) A (assign target env v) (fun _ s₂ => wpAny (model prog w) A (testsT ifs env) (fun ok s₃ =>
            if ok = true then wpAny (model prog w) A (eval elt env) (fun x s₄ => wpAny (model prog w) A (call (.builtin "list.append") [acc, x]) (fun _ s₅ => ∃ m, m < n ∧ I m s₅) (fun _ _ => False) s₄) (fun _ _ => False) s₃
            else ∃ m, m < n ∧ I m s₃) (fun _ _ => False) s₂) (fun _ _ => False) s₁) (fun _ _ => False) s₁) (fun _ _ => False) s)
    (n : Nat) (h : I n s) : codeAny (model prog w) A (.compLoop (.ListComp elt [⟨target, iter, ifs, 0⟩] scope pos) 0 it acc env) R s := by
  refine codeAny_loop rfl I (fun n s hI => ?_) n h
  show wpAny _ A ((compTurn (.ListComp elt [⟨target, iter, ifs, 0⟩] scope pos) 0 it acc env).onRaise (fun x => do noteFrame x env; theTreesLotGoes x)) _ _ s
  refine wpAny_noted ?_
  rw [compTurn_list]
  refine wpAny_bind (wpAny_standAt (wpAny_bind (wpAny_mono (turn n s hI) (fun r s₁ h₁ => ?_) fun _ _ h' => h'.elim)))
  cases r with
  | none => exact wpAny_pure h₁
  | some v =>
    refine wpAny_bind (wpAny_mono h₁ (fun _ s₁ h₁ => wpAny_bind (wpAny_mono h₁ (fun _ s₂ h₂ => wpAny_bind (wpAny_mono h₂ (fun ok s₃ h₃ => ?_) fun _ _ h' => h'.elim)) fun _ _ h' => h'.elim)) fun _ _ h' => h'.elim)
    cases ok with
    | false => exact wpAny_pure ⟨rfl, h₃⟩
    | true => exact wpAny_bind (wpAny_bind (wpAny_mono h₃ (fun x s₄ h₄ => wpAny_bind (wpAny_mono h₄ (fun _ s₅ h₅ => wpAny_pure (wpAny_pure ⟨rfl, h₅⟩)) fun _ _ h' => h'.elim)) fun _ _ h' => h'.elim))

/-- where the loop stands: k items are done -/
inductive CInv (C' : Cx) (own : Addr → Prop) (h₁ : Heap) (σ₀ : View) (ls : Ls) (t : Tg) (z : Nat) (St : Nat → Heap → Prop) (J : Nat → List V → View → Prop) (a : Addr) : Nat → Shared → Prop
  | mk {s' : Shared} (k : Nat) (acc : List V) (σ₂ : View) (vs : Array Value) (n : Nat) (ls' : Ls) : k ≤ z → J k acc σ₂ → Good C' σ₂ ls' s' → (∀ v, t.up v ls' = t.up v ls) → Step own h₁ σ₀ s'.heap σ₂ → St k s'.heap →
    s'.heap.get? a = some (listObj vs n) → vs.size ≤ k → Reals s'.heap (C'.D σ₂) vs.toList acc → CInv C' own h₁ σ₀ ls t z St J a (z + 1 - k) s'
theorem comp_loop {tgt : Expr} {t : Tg} (R : Rm C) (hS : S.Of C) (G₁ : Good C σ₁ ls s₁) {us xs : List V} {it : Addr} {wr fp : List Addr} {P : Nat → Nat → Heap → Value → Prop} {St : Nat → Heap → Prop} {h₂ : Heap} {tk : Nat}
    (I : It C s₁ (lockV σ₁ us) tgt (rpOf t) it wr xs fp P St) (st : St 0 h₂) (k₂ : ∀ b o, s₁.heap.get? b = some o → h₂.get? b = some o) (hz₂ : s₁.heap.objs.size ≤ h₂.objs.size) (hbig : xs.length ≤ big)
    {scope : Scope} {ys : List Str} {pos : Pos} {iter elt : Expr} {ifs : List Expr} {cl : List (Str × Addr)} (hc : compOk S scope ys = true) (hy : ∀ z ∈ ys, ∃ i ∈ t.idx, S.vars[i]? = some z) (hcl : closOf C.env.cells scope.names [] = some cl) (hA : ∀ L a, Asg (C.comp scope cl L a wr) tgt (rpOf t) t.up)
    (J : Nat → List V → View → Prop) (hJ : J 0 [] (lockV σ₁ us)) {RR : Value → Addr → Result → Shared → Prop}
    (turn : ∀ L a k v acc σ₂ s₂, Good (C.comp scope cl L a wr) σ₂ (t.up v ls) s₂ → xs[k]? = some v → J k acc σ₂ →
      TrE (C.comp scope cl L a wr) (t.up v ls) (testsT ifs (C.comp scope cl L a wr).env) (fun ok σ₃ s₃ => if ok = true then TrE (C.comp scope cl L a wr) (t.up v ls) (eval elt (C.comp scope cl L a wr).env) (RV (C.comp scope cl L a wr) fun d σ₄ => J (k + 1) (acc ++ [d]) σ₄) σ₃ s₃ else J (k + 1) acc σ₃) σ₂ s₂)
    (hRR : ∀ L a vs n acc σ₂ s₃ h₄ tk, s₁.heap.objs.size ≤ L → s₁.heap.objs.size ≤ a → (∀ b ∈ wr, s₁.heap.objs.size ≤ b ∧ b ≠ a ∧ b ≠ L) → a ≠ L → Ground (C.comp scope cl L a wr) σ₂ s₃ → Step (fun b => b = L ∨ b = a ∨ b ∈ wr) s₁.heap (lockV σ₁ us) s₃.heap σ₂ →
      s₃.heap.get? a = some (listObj vs n) → vs.size ≤ 2 ^ 24 → Reals s₃.heap ((C.comp scope cl L a wr).D σ₂) vs.toList acc → (∃ m, s₃.heap.Ns L m) → (∀ b o, b ∉ wr → s₃.heap.get? b = some o → h₄.get? b = some o) → s₃.heap.objs.size ≤ h₄.objs.size →
      J xs.length acc σ₂ → RR (.ref a) L (.ok .next) { s₃ with heap := h₄, toks := tk }) :
    wpAny (model C.W.prog C.W.w) C.A (newList []) (fun acc s₃ => wpAny (model C.W.prog C.W.w) C.A (newFunctionEnv scope C.env.globals cl [] C.env.qual none .none (some C.env)) (fun cenv s₄ =>
      codeAny (model C.W.prog C.W.w) C.A (.compStart (.ListComp elt [⟨tgt, iter, ifs, 0⟩] scope pos) 0 (.ref it) acc { cenv with scope := relabel scope C.env }) (RR acc cenv.locals) s₄) (fun _ _ => False) s₃) (fun _ _ => False) { s₁ with heap := h₂, toks := tk } := by
  obtain ⟨hk, hyl, hn⟩ := compOk_parts hc
  refine wpAny_newObj_type (wpAny_newFunctionEnv (fun x hx => (hn x.1 x.2 hx).1) (by intro y hy; simp at hy) (fun h₄ hns hsb => ?_) hk)
  dsimp only at hns hsb ⊢
  generalize hH3 : h₂.push { cls := .type "list", dict := none, data := .seq ([] : List Value).toArray } = h₃ at hns hsb ⊢
  have hsz3 : h₃.objs.size = h₂.objs.size + 1 := by rw [← hH3, Heap.size_push]
  have hsz4 : h₄.objs.size = h₃.objs.size + 1 := by rw [hsb.1, Heap.size_push]
  have k₄ : ∀ b o, h₂.get? b = some o → h₄.get? b = some o := fun b o e => hsb.extBut b o (Nat.ne_of_lt (by rw [hsz3]; exact Nat.lt_succ_of_lt (Heap.lt_size e))) (Heap.get?_push_of_some _ (hH3 ▸ Heap.get?_push_of_some _ e))
  have hacc : h₄.get? h₂.objs.size = some (listObj #[] 0) := hsb.extBut _ _ (by rw [hsz3]; exact Nat.ne_of_lt (Nat.lt_succ_self _)) (Heap.get?_push_of_some _ (hH3 ▸ Heap.get?_push_size _ rfl))
  have st₄ : St 0 h₄ := I.frame _ _ _ st fun b _ o e => k₄ b o e
  have wrlt : ∀ b ∈ wr, b < h₂.objs.size := fun b hb => by obtain ⟨o, e⟩ := I.alive 0 h₂ st b hb; exact Heap.lt_size e
  have hLa : h₂.objs.size ≠ h₃.objs.size := by rw [hsz3]; exact Nat.ne_of_lt (Nat.lt_succ_self _)
  have cenvEq : ({ (newEnv scope h₃.objs.size C.env.globals cl C.env.qual none .none (some C.env) builtinsNs) with scope := relabel scope C.env } : Env) = compEnvC scope cl h₃.objs.size C.env := rfl
  generalize hC' : C.comp scope cl h₃.objs.size h₂.objs.size wr = C'
  have eW : C'.W = C.W := by rw [← hC']; rfl
  have eA : C'.A = C.A := by rw [← hC']; rfl
  have eEnv : C'.env = compEnvC scope cl h₃.objs.size C.env := by rw [← hC']; rfl
  have eV : C'.vars = C.vars := by rw [← hC']; rfl
  have own' : ∀ a, C'.own a ↔ a = h₃.objs.size := fun a => by rw [← hC']; exact Iff.rfl
  have B' : ∀ a, C'.B a ↔ (C.own a ∨ C.B a) ∨ a = h₂.objs.size ∨ a ∈ wr := fun a => by rw [← hC']; exact Iff.rfl
  have newO : ∀ a, a = h₃.objs.size ∨ a = h₂.objs.size ∨ a ∈ wr → s₁.heap.objs.size ≤ a ∧ ∃ o, h₄.get? a = some o := fun a ha => by
    rcases ha with rfl | rfl | h
    · obtain ⟨o, _, _, e, _⟩ := hns
      exact ⟨by rw [hsz3]; exact Nat.le_succ_of_le hz₂, o, e⟩
    · exact ⟨hz₂, _, hacc⟩
    · obtain ⟨o, e⟩ := I.alive 0 h₄ st₄ a h
      exact ⟨I.new a h, o, e⟩
  have hN : ∀ a, C'.own a ∨ C'.B a → (C.own a ∨ C.B a) ∨ (s₁.heap.objs.size ≤ a ∧ ∃ o, h₄.get? a = some o) := fun a ha => by
    rcases ha with h | h
    · exact .inr (newO a (.inl ((own' a).mp h)))
    · rcases (B' a).mp h with h | h
      · exact .inl h
      · exact .inr (newO a (.inr h))
  have GL : Good C (lockV σ₁ us) ls s₁ := G₁.lock us
  have kk : ∀ b o, s₁.heap.get? b = some o → h₄.get? b = some o := fun b o e => k₄ b o (k₂ b o e)
  have hzz : s₁.heap.objs.size ≤ h₄.objs.size := by rw [hsz4, hsz3]; exact Nat.le_succ_of_le (Nat.le_succ_of_le hz₂)
  have S₄ : Step (fun b => b = h₃.objs.size ∨ b = h₂.objs.size ∨ b ∈ wr) s₁.heap (lockV σ₁ us) h₄ (lockV σ₁ us) := ⟨fun b o e _ _ => kk b o e, hzz, fun _ h1 h2 => absurd h2 h1, fun _ _ _ e _ => .inl e⟩
  have G₄ : Good C' (lockV σ₁ us) (ls.erase t.idx) { s₁ with heap := h₄, toks := tk } := by
    refine ⟨GL.toGround.enter eW kk hzz hN fun a ha hb => ?_, ?_⟩
    · have := (own' a).mp ha
      subst this
      rcases (B' _).mp hb with h | h | h
      · exact absurd (GL.toGround.lt (.inr h)) (Nat.not_lt.mpr (by rw [hsz3]; exact Nat.le_succ_of_le hz₂))
      · exact hLa h.symm
      · exact absurd (wrlt _ h) (Nat.not_lt.mpr (by rw [hsz3]; exact Nat.le_succ _))
    · refine hC' ▸ ?_
      exact comp_fr hS GL hc hcl kk ((hsz3 ▸ (Nat.le_succ_of_le hz₂))) ⟨_, hns⟩ hy fun a ha => (hN a ((hC' ▸ ha))).imp id (·.1)
  have leavesB : ∀ {σ' : View} {h' : Heap}, Step (fun b => b = h₃.objs.size ∨ b = h₂.objs.size ∨ b ∈ wr) s₁.heap (lockV σ₁ us) h' σ' → Leaves s₁.heap (C.D (lockV σ₁ us)) h' (C'.D σ') := fun S' b o e hd => by
    have hlt := Heap.lt_size e
    have hn : lockV σ₁ us b = none := by
      cases q : lockV σ₁ us b with
      | none => rfl
      | some c => exact absurd (.inl (not_some q)) hd
    have hnew : ¬ (b = h₃.objs.size ∨ b = h₂.objs.size ∨ b ∈ wr) := fun h => absurd hlt (Nat.not_lt.mpr (newO b h).1)
    refine ⟨S'.keep b o e (Rw.of_none hn) hnew, ?_⟩
    rintro (h | h)
    · exact h (S'.none hlt hn)
    · rcases hN b h with h | h
      · exact hd (.inr h)
      · exact absurd hlt (Nat.not_lt.mpr h.1)
  have loop : ∀ s₅ : Shared, s₅ = { s₁ with heap := h₄, toks := tk } →
      codeAny (model C.W.prog C.W.w) C.A (.compLoop (.ListComp elt [⟨tgt, iter, ifs, 0⟩] scope pos) 0 (.ref it) (.ref h₂.objs.size) (compEnvC scope cl h₃.objs.size C.env)) (RR (.ref h₂.objs.size) h₃.objs.size) s₅ := by
    rintro s₅ rfl
    refine compLoop_gen
      (CInv C' (fun b => b = h₃.objs.size ∨ b = h₂.objs.size ∨ b ∈ wr) s₁.heap (lockV σ₁ us) ls t xs.length St J h₂.objs.size) ?_ (xs.length + 1)
      (.mk 0 [] _ #[] 0 _ (Nat.zero_le _) hJ G₄ (fun v => up_erase t ls v) S₄ st₄ hacc (Nat.le_refl _) .nil)
    rintro m s' ⟨k, acc, σ₂, vs, n, ls', hkl, hJk, G', hset, S', st', hav, hvz, rs⟩
    have wrB : ∀ b ∈ wr, C'.own b ∨ C'.B b := fun b hb => .inr ((B' b).mpr (.inr (.inr hb)))
    have cellsOld : ∀ x c, C'.env.cells.lookup x = some c → c < s₁.heap.objs.size := fun x c e => by
      have := closOf_mem C.env.cells scope.names [] cl hcl (by intro n c e; exact nn e) x c (by rw [eEnv] at e; exact e)
      obtain ⟨_, _, v, o, hq1⟩ := G₁.fr.cells x c this
      exact Heap.lt_size hq1.1
    have hLw : C'.env.locals ∉ wr := by
      rw [eEnv]; intro h
      exact absurd (wrlt _ h) (Nat.not_lt.mpr (hsz3 ▸ Nat.le_succ _))
    have aB : C'.own h₂.objs.size ∨ C'.B h₂.objs.size := .inr ((B' _).mpr (.inr (.inl rfl)))
    have aL : C'.env.locals ≠ h₂.objs.size := by rw [eEnv]; exact Ne.symm hLa
    by_cases hlt : k < xs.length
    · have hdec : xs.length + 1 - (k + 1) < xs.length + 1 - k := Nat.sub_lt_sub_left (Nat.lt_succ_of_lt hlt) (Nat.lt_succ_self k)
      refine I.item' hlt st' (fun v s₂ h => h) fun v h' tk' hP st'' hk' hz' => ?_
      have awr : h₂.objs.size ∉ wr := fun h => Nat.lt_irrefl _ (wrlt _ h)
      obtain ⟨G₅, S₅, L₅⟩ := G'.quietW (tk := tk') wrB hLw (fun x c e h => absurd (cellsOld x c e) (Nat.not_lt.mpr (I.new c h))) hz' hk' (I.alive _ _ st'')
      have S₅ := S₅ (fun b => b = h₃.objs.size ∨ b = h₂.objs.size ∨ b ∈ wr) fun b hb => .inr (.inr hb)
      have Lb := leavesB (S'.trans S₅)
      obtain ⟨xv, hq0⟩ := I.val k v s'.heap.objs.size h' (C'.D σ₂) hlt Lb (fun a ha => G'.toGround.lt ha) hP
      have rs₅ : Reals h' (C'.D σ₂) vs.toList acc := rs.leaves L₅
      have hav₅ : h'.get? h₂.objs.size = some (listObj vs n) := hk' _ _ awr hav
      have wk : ∀ a, C'.own a → a = h₃.objs.size ∨ a = h₂.objs.size ∨ a ∈ wr := fun a ha => .inl ((own' a).mp ha)
      have keepB : ∀ {hA hB : Heap} {σA σB : View} {sA : Shared} {lA : Ls}, sA.heap = hA → Good C' σA lA sA → Step C'.own hA σA hB σB → ∀ b, C'.B b → ∀ o, hA.get? b = some o → hB.get? b = some o := by
        rintro hA hB σA σB sA lA rfl GA SA b hb o e
        exact SA.keep b o e (Rw.of_none (GA.apart b (.inr hb))) fun h => GA.apart2 b h hb
      have stKeep : ∀ {hA hB : Heap} {σA σB : View} {sA : Shared} {lA : Ls}, sA.heap = hA → Good C' σA lA sA → Step C'.own hA σA hB σB → Step (fun b => b = h₃.objs.size ∨ b = h₂.objs.size ∨ b ∈ wr) s₁.heap (lockV σ₁ us) hA σA → St (k + 1) hA → St (k + 1) hB := by
        intro hA hB σA σB sA lA eA GA SA SA₀ stA
        refine I.frame _ _ _ stA fun b hb o e => ?_
        rcases I.fps b hb with h | ⟨h1, h2, h3⟩
        · exact keepB eA GA SA b ((B' b).mpr (.inr (.inr h))) o e
        · refine SA.keep b o e (SA₀.notRw h1 h2) fun h => ?_
          exact absurd h1 (Nat.not_lt.mpr (newO b (.inl ((own' b).mp h))).1)
      have goal : ∀ s₆, Good C' σ₂ (t.up xv ls) s₆ → Step C'.own h' σ₂ s₆.heap σ₂ → wpAny (model C.W.prog C.W.w) C.A (testsT ifs C'.env) (fun ok s₃ =>
            if ok = true then wpAny (model C.W.prog C.W.w) C.A (eval elt C'.env) (fun x s₄ =>
              wpAny (model C.W.prog C.W.w) C.A (call (.builtin "list.append") [.ref h₂.objs.size, x]) (fun _ s₅ => ∃ m, m < xs.length + 1 - k ∧ CInv C' (fun b => b = h₃.objs.size ∨ b = h₂.objs.size ∨ b ∈ wr) s₁.heap (lockV σ₁ us) ls t xs.length St J h₂.objs.size m s₅) (fun _ _ => False) s₄) (fun _ _ => False) s₃
            else ∃ m, m < xs.length + 1 - k ∧ CInv C' (fun b => b = h₃.objs.size ∨ b = h₂.objs.size ∨ b ∈ wr) s₁.heap (lockV σ₁ us) ls t xs.length St J h₂.objs.size m s₃) (fun _ _ => False) s₆ := by
        intro s₆ G₆ S₆
        have hset2 : ∀ v, t.up v (t.up xv ls) = t.up v ls := fun v => up_up t ls v xv
        have S06 := (S'.trans S₅).trans (S₆.weaken wk)
        have hav₆ := keepB rfl G₅ S₆ _ ((B' _).mpr (.inr (.inl rfl))) _ hav₅
        have st₆ := stKeep rfl G₅ S₆ (S'.trans S₅) st''
        have rs₆ := rs₅.step G₅ S₆
        have ht := turn h₃.objs.size h₂.objs.size k xv acc σ₂ s₆
        rw [hC'] at ht
        have ht' : wpAny (model C'.W.prog C'.W.w) C'.A _ _ _ s₆ := ht G₆ hq0.1 hJk
        rw [eW, eA] at ht'
        refine wpAny_mono ht' ?_ fun _ _ x => x
        rintro ok s₇ ⟨σ₇, G₇, S₇, h₇⟩
        have hav₇ := keepB rfl G₆ S₇ _ ((B' _).mpr (.inr (.inl rfl))) _ hav₆
        have st₇ := stKeep rfl G₆ S₇ S06 st₆
        have S07 := S06.trans (S₇.weaken wk)
        have rs₇ := rs₆.step G₆ S₇
        cases ok with
        | false =>
          skip
          exact ⟨_, hdec, .mk (k + 1) acc σ₇ vs n _ hlt h₇ G₇ hset2 S07 st₇ hav₇ (Nat.le_succ_of_le hvz) rs₇⟩
        | true =>
          skip
          have h₇' := h₇
          unfold TrE at h₇'
          rw [eW, eA] at h₇'
          refine wpAny_mono h₇' ?_ fun _ _ x => x
          rintro w s₈ ⟨σ₈, G₈, S₈, d, rd, hJd⟩
          have hav₈ := keepB rfl G₇ S₈ _ ((B' _).mpr (.inr (.inl rfl))) _ hav₇
          have st₈ := stKeep rfl G₇ S₈ S07 st₇
          have S08 := S07.trans (S₈.weaken wk)
          have rs₈ := rs₇.step G₇ S₈
          have hzv : vs.size ≤ 2 ^ 24 := Nat.le_trans hvz (Nat.le_trans (Nat.le_of_lt hlt) hbig)
          have hsb : Heap.SameBut h₂.objs.size s₈.heap (s₈.heap.update h₂.objs.size (Obj.mapSeq fun x => x.push w)) := Heap.SameBut.update ..
          have hnew : (s₈.heap.update h₂.objs.size (Obj.mapSeq fun x => x.push w)).get? h₂.objs.size = some (listObj (vs.push w) (if (vs.push w).size == vs.size then n else n + 1)) := Heap.get?_update_self _ hav₈ rfl
          obtain ⟨G₉, S₉, L₉⟩ := G₈.quietW (wr := [h₂.objs.size]) (tk := s₈.toks) (h' := s₈.heap.update h₂.objs.size (Obj.mapSeq fun x => x.push w)) (fun b hb => by simp at hb; subst hb; exact aB) (by simp; exact aL)
            (fun x c e h => by replace h := List.mem_singleton.mp h; exact absurd (cellsOld x c e) (Nat.not_lt.mpr ((h ▸ hz₂)))) (Nat.le_of_eq hsb.1.symm) (fun b o hb e => hsb.extBut b o (by simpa using hb) e) (fun b hb => by simp at hb; subst hb; exact ⟨_, hnew⟩)
          have S₉ := S₉ (fun b => b = h₃.objs.size ∨ b = h₂.objs.size ∨ b ∈ wr) fun b hb => by replace hb := List.mem_singleton.mp hb; exact .inr (.inl hb)
          refine call_meets F.slot_list_append ⟨_, hav₈, rfl⟩ F.entry_list_append (F.args_list_append_2 _ _) (PySem.list_append h₂.objs.size vs n w (sz hzv)) ⟨hav₈, ?_⟩
          refine ⟨_, hdec, .mk (k + 1) (acc ++ [d]) σ₈ (vs.push w) _ _ hlt hJd G₉ hset2 (S08.trans S₉) ?_ hnew (by rw [Array.size_push]; exact Nat.succ_le_succ hvz) ?_⟩
          · refine I.frame _ _ _ st₈ fun b hb o e => hsb.extBut b o (fun q => ?_) e
            subst q
            rcases I.fps _ hb with h | ⟨h1, _⟩
            · exact awr h
            · exact absurd h1 (Nat.not_lt.mpr hz₂)
          · simp only [Array.toList_push]
            exact (rs₈.leaves L₉).append (.cons (rd.leaves L₉) .nil)
      have hstore := hA h₃.objs.size h₂.objs.size
      replace hstore := hC' ▸ hstore
      have hstore := hstore σ₂ ls' _ v xv G₅ hq0.2
      rw [eW, eA, hset] at hstore
      refine eEnv ▸ ?_
      exact wpAny_mono hstore (fun _ s₆ g => goal s₆ g.1 g.2) fun _ _ x => x
    · have hk0 : k = xs.length := Nat.le_antisymm hkl (Nat.not_lt.mp hlt)
      subst hk0
      refine I.done' st' fun h' tk' hk' hz' => ?_
      have hR := hRR h₃.objs.size h₂.objs.size vs n acc σ₂ s' h' tk' ((hsz3 ▸ (Nat.le_succ_of_le hz₂))) hz₂ (fun b hb => ⟨I.new b hb, Nat.ne_of_lt (wrlt b hb), Nat.ne_of_lt ((hsz3 ▸ (Nat.lt_succ_of_lt (wrlt b hb))))⟩) hLa
      rw [hC'] at hR
      refine hR G'.toGround S' hav (Nat.le_trans hvz hbig) rs ?_ hk' hz' hJk
      have := G'.fr.ns
      replace this := eEnv ▸ this
      exact this
  exact codeAny_compStart_list (loop _ rfl) (I.self 0 _ _ _ st₄ (loop _ rfl))
end
end Mine
end

section

open PySem PyProof.Rows
namespace Mine
section
variable {C C₁ C₂ : Cx} {S : Sc} {ls : Ls} {σ σ₁ τ τ₂ : View} {s s₁ : Shared}

theorem Good.reB (hW : C₂.W = C₁.W) (henv : C₂.env = C₁.env) (hv : C₂.vars = C₁.vars) (hown : C₂.own = C₁.own) (G : Good C₁ τ ls s) (hD : ∀ b, C₂.D τ₂ b → C₁.D τ b) (hap : ∀ a, C₂.own a ∨ C₂.B a → τ₂ a = none) (hap2 : ∀ a, C₂.own a → ¬ C₂.B a)
    (hc : ∀ x c, C₂.env.cells.lookup x = some c → C₂.own c ∨ C₂.B c) (sim : Leaves s.heap (C₁.D τ) s.heap (C₂.D τ₂) → ∀ a c, τ₂ a = some c → CellAt s.heap (C₂.D τ₂) a c) : Good C₂ τ₂ ls s := by
  have L : Leaves s.heap (C₁.D τ) s.heap (C₂.D τ₂) := fun b o e hd => ⟨e, fun h => hd (hD b h)⟩
  have F := G.fr
  refine ⟨⟨(hW ▸ G.stays), (hW ▸ G.same), fun a h => (hW ▸ (G.fresh a (hD a h))), (hW ▸ G.larger), sim L, hap, hap2, fun a h => G.toGround.there (hD a (.inr h))⟩,
    ⟨(henv ▸ F.kind), (henv ▸ F.glob), (henv ▸ F.blt), (henv ▸ F.ns), (hown ▸ henv ▸ F.ownL), fun x c e => ⟨hc x c e, by rw [henv] at e ⊢; exact (F.cells x c e).2⟩, (henv ▸ F.inj), fun i x d e1 e2 e3 => ?_, by rw [hv]; exact F.nodup, (henv ▸ F.has)⟩⟩
  rw [henv] at e2 ⊢
  rw [hv] at e1
  refine Exists.elim (F.val i x d e1 e2 e3) ?_; rintro v hq0
  exact ⟨v, hq0.1, hq0.2.leaves L⟩

/-- an object that was kept apart is read as it is -/
theorem Good.release {a : Addr} {X : List Addr} (G₁ : Good C σ₁ ls s₁) {ls' : Ls} (G : Good (C.more (a :: X)) τ ls' s) : Good (C.more X) τ ls' s ∧ Leaves s.heap ((C.more (a :: X)).D τ) s.heap ((C.more X).D τ) := by
  have hD : ∀ b, (C.more X).D τ b → (C.more (a :: X)).D τ b := fun b h => (D_more b).mpr (((D_more b).mp h).imp id (List.mem_cons_of_mem _))
  refine ⟨Good.reB (C₁ := C.more (a :: X)) rfl rfl rfl rfl G hD (fun b h => G.apart b (h.imp id fun h => h.imp id (List.mem_cons_of_mem _))) (fun b h hb => G.apart2 b h (hb.imp id (List.mem_cons_of_mem _)))
    (fun x c e => (G₁.fr.cells x c e).1.imp id .inl) fun L b c e => (G.sim b c e).leaves L fun _ e => e, fun b o e hd => ⟨e, fun h => hd (hD b h)⟩⟩
/-- or becomes the view's -/
theorem Good.adopt {a : Addr} {X : List Addr} {c : Cell} (G₁ : Good C σ₁ ls s₁) {ls' : Ls} (G : Good (C.more (a :: X)) τ ls' s) (ha : s₁.heap.objs.size ≤ a) (haX : a ∉ X)
    (hc : ∀ D', Leaves s.heap ((C.more (a :: X)).D τ) s.heap D' → CellAt s.heap D' a c) : Good (C.more X) (τ.upd a c) ls' s := by
  have hD : ∀ b, (C.more X).D (τ.upd a c) b → (C.more (a :: X)).D τ b := fun b h => by
    rcases (D_more b).mp h with (h | h) | h
    · by_cases q : b = a
      · subst q; exact (D_more b).mpr (.inr (.head _))
      · rw [upd_ne q] at h; exact (D_more b).mpr (.inl (.inl h))
    · exact (D_more b).mpr (.inl (.inr h))
    · exact (D_more b).mpr (.inr (.tail _ h))
  have hne : ∀ b, C.own b ∨ C.B b → b ≠ a := fun b h => Nat.ne_of_lt (Nat.lt_of_lt_of_le (G₁.toGround.lt (.inr h)) ha)
  refine Good.reB (C₁ := C.more (a :: X)) rfl rfl rfl rfl G hD (fun b h => ?_) (fun b h hb => G.apart2 b h (hb.imp id (List.mem_cons_of_mem _))) (fun x c e => (G₁.fr.cells x c e).1.imp id .inl) fun L b d e => ?_
  · have : b ≠ a := by
      rcases h with h | h | h
      · exact hne b (.inl h)
      · exact hne b (.inr h)
      · rintro rfl; exact haX h
    refine (upd_ne this) ▸ ?_
    exact G.apart b (h.imp id fun h => h.imp id (List.mem_cons_of_mem _))
  · by_cases q : b = a
    · cases q; rw [upd_self] at e; cases e; exact hc _ L
    · rw [upd_ne q] at e; exact (G.sim b d e).leaves L fun _ e => e

theorem unlockV_cases (σ₁ σ₂ : View) (us : List V) : unlockV σ₁ us σ₂ = σ₂ ∨ ∃ a c c', us = [.ref a] ∧ σ₁ a = some c ∧ σ₂ a = some c' ∧ unlockV σ₁ us σ₂ = σ₂.upd a c := by
  unfold unlockV
  split
  · split
    · rename_i e1 e2; exact .inr ⟨_, _, _, rfl, e1, e2, rfl⟩
    · rename_i e1 e2; exact .inr ⟨_, _, _, rfl, e1, e2, rfl⟩
    · exact .inl rfl
  · exact .inl rfl
/-- the end of a comprehension: its list -/
theorem comp_end (G₁ : Good C σ₁ ls s₁) {us acc : List V} {scope : Scope} {cl : List (Str × Addr)} {L a : Addr} {wr : List Addr} {vs : Array Value} {n : Nat} {σ₂ : View} {s₃ : Shared} {h₄ : Heap} {tk : Nat} (hL : s₁.heap.objs.size ≤ L) (ha : s₁.heap.objs.size ≤ a)
    (hw : ∀ b ∈ wr, s₁.heap.objs.size ≤ b ∧ b ≠ a ∧ b ≠ L) (haL : a ≠ L) (G : Ground (C.comp scope cl L a wr) σ₂ s₃) (S : Step (fun b => b = L ∨ b = a ∨ b ∈ wr) s₁.heap (lockV σ₁ us) s₃.heap σ₂) (hav : s₃.heap.get? a = some (listObj vs n)) (hvz : vs.size ≤ 2 ^ 24)
    (rs : Reals s₃.heap ((C.comp scope cl L a wr).D σ₂) vs.toList acc) (hns : ∃ m, s₃.heap.Ns L m) (k : ∀ b o, b ∉ wr → s₃.heap.get? b = some o → h₄.get? b = some o) (hz : s₃.heap.objs.size ≤ h₄.objs.size) :
    (Good (C.more [L]) (unlockV σ₁ us σ₂) ls { s₃ with heap := h₄, toks := tk } ∧ Step C.own s₁.heap σ₁ h₄ (unlockV σ₁ us σ₂) ∧ Real h₄ ((C.more [L]).D (unlockV σ₁ us σ₂)) (.ref a) (.lst acc)) ∧
    (Good (C.more [L]) ((unlockV σ₁ us σ₂).upd a (.list false acc)) ls { s₃ with heap := h₄, toks := tk } ∧ Step C.own s₁.heap σ₁ h₄ ((unlockV σ₁ us σ₂).upd a (.list false acc)) ∧ unlockV σ₁ us σ₂ a = none) ∧ ∃ m, h₄.Ns L m := by
  have hLw : L ∉ wr := fun h => (hw L h).2.2 rfl
  have haw : a ∉ wr := fun h => (hw a h).2.1 rfl
  have hns4 : ∃ m, h₄.Ns L m := by refine Exists.elim hns ?_; rintro m hm; exact ⟨m, hm.at' fun o e => k L o hLw e⟩
  have hav4 := k a _ haw hav
  have oL : ∃ o, h₄.get? L = some o := by refine Exists.elim hns4 fun m hx => ?_; obtain ⟨o, _, _, hq2⟩ := hx; exact ⟨o, hq2.1⟩
  have σnone : ∀ b, (b = L ∨ b = a ∨ b ∈ wr) → σ₂ b = none := fun b h => by
    rcases h with rfl | h
    · exact G.apart b (.inl rfl)
    · exact G.apart b (.inr (.inr h))
  obtain ⟨G₄, S₄, L₄⟩ := (G₁.lock us).leaveX (X := [a, L]) (τ := σ₂) (h₄ := h₄) (tk := tk) (N := fun b => b = L ∨ b = a ∨ b ∈ wr) (C' := C.comp scope cl L a wr) rfl (fun b h => .inl h)
    (fun b h => by
      rcases h with rfl | rfl | h
      · exact ⟨hL, .inl rfl⟩
      · exact ⟨ha, .inr (.inr (.inl rfl))⟩
      · exact ⟨(hw b h).1, .inr (.inr (.inr h))⟩) G S (fun b o hb e => k b o (fun h => hb (.inr (.inr h))) e) hz (fun b h => .inl h) (fun b c h => h)
    (fun b hb => by
      simp at hb
      rcases hb with rfl | rfl
      · exact ⟨.inr (.inl rfl), ⟨_, hav4⟩, σnone _ (.inr (.inl rfl))⟩
      · exact ⟨.inl rfl, oL, σnone _ (.inl rfl)⟩)
    (fun _ b c e hb => by rw [σnone b hb] at e; exact nn e)
  have hq1 := unlock (us := us) (s₁ := s₁) (fun b hb => G₁.toGround.lt (.inl hb)) G₄ S₄
  have rs4 : Reals h₄ ((C.more [a, L]).D (unlockV σ₁ us σ₂)) vs.toList acc := by
    have := rs.leaves L₄
    have e : (C.more [a, L]).D (unlockV σ₁ us σ₂) = (C.more [a, L]).D σ₂ := by
      funext b
      unfold Cx.D
      have : unlockV σ₁ us σ₂ b ≠ none ↔ σ₂ b ≠ none := by
        rcases unlockV_cases σ₁ σ₂ us with e | ⟨a', c, c', _, _, e2, e⟩
        · rw [e]
        · refine e ▸ ?_
          by_cases q : b = a'
          · subst q; simp [e2]
          · rw [upd_ne q]
      simp only [this]
    exact e ▸ this
  have una : unlockV σ₁ us σ₂ a = none := hq1.1.apart a (.inr (.inr (.head _)))
  refine ⟨?_, ?_, hns4⟩
  · have hq0 := Good.release G₁ hq1.1
    refine ⟨hq0.1, hq1.2, .lst hav4 hvz (fun hd => ?_) (rs4.leaves hq0.2)⟩
    rcases (D_more a).mp hd with (h | h) | h
    · exact h una
    · exact absurd (G₁.toGround.lt (.inr h)) (Nat.not_lt.mpr ha)
    · replace h := List.mem_singleton.mp h; exact haL h
  · refine ⟨Good.adopt G₁ hq1.1 ha (by simpa using haL) fun D' L' => ⟨vs, n, hav4, hvz, rs4.leaves L'⟩, ?_, una⟩
    refine ⟨hq1.2.keep, hq1.2.size, fun b h1 h2 => ?_, fun b c hb e hr => ?_⟩
    · by_cases q : b = a
      · exact q ▸ ha
      · rw [upd_ne q] at h1; exact hq1.2.grow b h1 h2
    · have : b ≠ a := Nat.ne_of_lt (Nat.lt_of_lt_of_le hb ha)
      exact (upd_ne this) ▸ (hq1.2.ro b c hb e hr)
end
end Mine
end

section

open PySem PyProof.Rows
namespace Mine

structure Pg where
  fns : List Str
  gcs : List Str

noncomputable def isLoc (S : Sc) (x : Str) : Bool := (match S.names.lookup x with | some .local => true | some .cell => true | some .free => true | _ => false) && !(x == ("__debug__" : Str)) && !(x == ("__classdict__" : Str))
noncomputable def litOk : V → Const → Bool
  | .none, .none => true
  | .bool a, .bool b => a == b
  | .int i, .int j => i == j
  | .str x, .str y => x == y && PyData.strOk x && decide (x.cps.size ≤ 1000)
  | _, _ => false
noncomputable def iterArgs (n : String) (S : Sc) : Expr → Option (List Expr)
  | .Call (.Name f _) args [] _ => if f = Str.ofString n ∧ glob S f = true ∧ noStar args = true ∧ args.isEmpty = false then some args else none
  | _ => none
noncomputable def nameOf : Expr → Option Str
  | .Name y _ => some y
  | _ => none
noncomputable def pairL : List Expr → Option (Expr × Expr)
  | [] => none
  | a :: r => match r with
    | [] => none
    | b :: t => match t with
      | [] => some (a, b)
      | _ :: _ => none
noncomputable def pairOf : Expr → Option (Expr × Expr)
  | .Tuple l _ _ => pairL l
  | _ => none
/-- a target and its names -/
noncomputable def agTg (S : Sc) (t : Tg) (e : Expr) : Option (List Str) := match t with
  | .one i => (nameOf e).bind fun y => if S.vars[i]? = some y then some [y] else none
  | .two i j => (pairOf e).bind fun p => (nameOf p.1).bind fun y => (nameOf p.2).bind fun z => if S.vars[i]? = some y ∧ S.vars[j]? = some z then some [y, z] else none
/-- enumerate goes to two names, all else to one -/
noncomputable def okI : Tg → MI → Bool
  | .two _ _, .enum _ => true
  | .two _ _, _ => false
  | .one _, .enum _ => false
  | .one _, _ => true

/-- asked as a test, its value is asked -/
noncomputable def tplain : Expr → Bool
  | .UnaryOp .Not _ _ => false
  | .BoolOp _ _ _ => false
  | .IfExp _ _ _ _ => false
  | .Compare _ [_] [r] _ => notSet r
  | .Compare _ _ _ _ => false
  | _ => true

mutual
noncomputable def agE (P : Pg) (S : Sc) : ME → Expr → Bool
  | .var i, e => match e with
    | .Name x _ => S.vars[i]? == some x && isLoc S x
    | _ => false
  | .lit d, e => match e with
    | .Constant c _ _ => litOk d c
    | _ => false
  | .gcon k, e => match e with
    | .Name x _ => P.gcs[k]? == some x && glob S x
    | _ => false
  | .op o args, e => match shp S o e with
    | some es => agEs P S args es
    | none => false
  | .meth o b args, e => match mshp o e with
    | some (b', es) => agE P S b b' && agEs P S args es
    | none => false
  | .dict _ ks vs, e => match e with
    | .Dict [] [] _ => ks.isEmpty && (match vs with | .nil => true | _ => false)
    | _ => false
  | .and es, e => match e with
    | .BoolOp .And vs _ => agEs P S es vs
    | _ => false
  | .or es, e => match e with
    | .BoolOp .Or vs _ => agEs P S es vs
    | _ => false
  | .not m, e => match e with
    | .UnaryOp .Not x _ => agE P S m x
    | _ => false
  | .call f args, e => match e with
    | .Call (.Name g _) as [] _ => P.fns[f]? == some g && glob S g && noStar as && !as.isEmpty && agEs P S args as
    | _ => false
  | .comp _ elt x it ifs, e => match e with
    | .ListComp el [⟨tg, iter, fs, 0⟩] scope _ => (match agTg S x tg with | some ys => compOk S scope ys | none => false) && okI x it && notSet iter && agI P S it iter && agEs P (S.comp scope) ifs fs && agE P (S.comp scope) elt el
    | _ => false
  | .frz m, e => agE P S m e && tplain e
noncomputable def agEs (P : Pg) (S : Sc) : MEs → List Expr → Bool
  | .nil, es => es.isEmpty
  | .cons m ms, es => match es with
    | e :: r => agE P S m e && agEs P S ms r
    | [] => false
noncomputable def agI (P : Pg) (S : Sc) : MI → Expr → Bool
  | .seq m, e => agE P S m e
  | .range ms, e => match iterArgs "range" S e with
    | some es => agEs P S ms es
    | none => false
  | .enum ms, e => match iterArgs "enumerate" S e with
    | some es => agEs P S ms es
    | none => false
end

section
variable {P : Pg} {S : Sc} {e : Expr}
theorem ag_var {i : Nat} (h : agE P S (.var i) e = true) : ∃ x p, e = .Name x p ∧ (S.vars[i]? == some x && isLoc S x) = true := by
  cases e <;> first | exact ⟨_, _, rfl, h⟩ | exact ff h
theorem ag_lit {d : V} (h : agE P S (.lit d) e = true) : ∃ c k p, e = .Constant c k p ∧ litOk d c = true := by
  cases e <;> first | exact ⟨_, _, _, rfl, h⟩ | exact ff h
theorem ag_gcon {k : Nat} (h : agE P S (.gcon k) e = true) : ∃ x p, e = .Name x p ∧ (P.gcs[k]? == some x && glob S x) = true := by
  cases e <;> first | exact ⟨_, _, rfl, h⟩ | exact ff h
theorem ag_op {o : Op} {args : MEs} (h : agE P S (.op o args) e = true) : ∃ es, shp S o e = some es ∧ agEs P S args es = true := by
  have h : (match shp S o e with | some es => agEs P S args es | none => false) = true := h
  cases hs : shp S o e with
  | none => replace h := hs ▸ h; exact (ff h)
  | some es => rw [hs] at h; exact ⟨es, rfl, h⟩
theorem ag_meth {o : Op} {b : ME} {args : MEs} (h : agE P S (.meth o b args) e = true) : ∃ b' es, mshp o e = some (b', es) ∧ (agE P S b b' && agEs P S args es) = true := by
  have h : (match mshp o e with | some (b', es) => agE P S b b' && agEs P S args es | none => false) = true := h
  cases hs : mshp o e with
  | none => replace h := hs ▸ h; exact (ff h)
  | some es => rw [hs] at h; exact ⟨es.1, es.2, rfl, h⟩
theorem ag_dict {m : Bool} {ks : List Int} {vs : MEs} (h : agE P S (.dict m ks vs) e = true) : ∃ p, e = .Dict [] [] p ∧ ks = [] ∧ vs = .nil := by
  cases e <;> first
    | exact ff h
    | (rename_i a b p
       cases a with
       | cons _ _ => exact ff h
       | nil =>
         cases b with
         | cons _ _ => exact ff h
         | nil =>
           cases vs with
           | nil =>
             have h : (ks.isEmpty && true) = true := h
             simp only [Bool.and_true, List.isEmpty_iff] at h
             exact ⟨p, rfl, h, rfl⟩
           | cons _ _ =>
             have h : (ks.isEmpty && false) = true := h
             rw [Bool.and_false] at h; exact nomatch h)
theorem ag_and {es : MEs} (h : agE P S (.and es) e = true) : ∃ vs p, e = .BoolOp .And vs p ∧ agEs P S es vs = true := by
  cases e <;> first
    | exact ff h
    | (rename_i o vs p; cases o <;> first | exact ⟨_, _, rfl, h⟩ | exact ff h)
theorem ag_or {es : MEs} (h : agE P S (.or es) e = true) : ∃ vs p, e = .BoolOp .Or vs p ∧ agEs P S es vs = true := by
  cases e <;> first
    | exact ff h
    | (rename_i o vs p; cases o <;> first | exact ⟨_, _, rfl, h⟩ | exact ff h)
theorem ag_not {m : ME} (h : agE P S (.not m) e = true) : ∃ x p, e = .UnaryOp .Not x p ∧ agE P S m x = true := by
  cases e <;> first
    | exact ff h
    | (rename_i o x p; cases o <;> first | exact ⟨_, _, rfl, h⟩ | exact ff h)
theorem ag_call {f : Nat} {args : MEs} (h : agE P S (.call f args) e = true) : ∃ g p as pos, e = .Call (.Name g p) as [] pos ∧ (P.fns[f]? == some g && glob S g && noStar as && !as.isEmpty && agEs P S args as) = true := by
  cases e <;> first
    | exact ff h
    | (rename_i g as kw pos
       cases g <;> first
         | exact ff h
         | (cases kw with
            | nil => exact ⟨_, _, _, _, rfl, h⟩
            | cons _ _ => exact ff h))
theorem ag_comp {m : Bool} {elt : ME} {x : Tg} {it : MI} {ifs : MEs} (h : agE P S (.comp m elt x it ifs) e = true) : ∃ el tg iter fs scope pos, e = .ListComp el [⟨tg, iter, fs, 0⟩] scope pos ∧ ((match agTg S x tg with | some ys => compOk S scope ys | none => false) && okI x it && notSet iter && agI P S it iter && agEs P (S.comp scope) ifs fs && agE P (S.comp scope) elt el) = true := by
  cases e with
  | ListComp el gs scope pos =>
    cases gs with
    | nil => exact ff h
    | cons g gs =>
      obtain ⟨t, iter, fs, a⟩ := g
      cases a with
      | negSucc _ => exact ff h
      | ofNat n =>
        cases n with
        | succ _ => exact ff h
        | zero =>
          cases gs with
          | nil => exact ⟨_, _, _, _, _, _, rfl, h⟩
          | cons _ _ => exact ff h
  | _ => exact ff h
theorem nameOf_inv {e : Expr} {y : Str} (h : nameOf e = some y) : ∃ p, e = .Name y p := by
  cases e with
  | Name y' p => cases h; exact ⟨p, rfl⟩
  | _ => exact nn h
theorem pairL_inv {l : List Expr} {p : Expr × Expr} (h : pairL l = some p) : l = [p.1, p.2] := by
  cases l with
  | nil => exact nn h
  | cons a r =>
    cases r with
    | nil => exact nn h
    | cons b t =>
      cases t with
      | nil => cases h; rfl
      | cons _ _ => exact nn h
theorem pairOf_inv {e : Expr} {p : Expr × Expr} (h : pairOf e = some p) : ∃ n pt, e = .Tuple [p.1, p.2] n pt := by
  cases e with
  | Tuple l n pt => exact ⟨n, pt, ((pairL_inv h) ▸ rfl)⟩
  | _ => exact nn h
inductive TgI (S : Sc) (t : Tg) (tg : Expr) (ys : List Str) : Prop
  | one (i : Nat) (y : Str) (p : Pos) : t = .one i → tg = .Name y p → ys = [y] → S.vars[i]? = some y → TgI S t tg ys
  | two (i j : Nat) (y z : Str) (p p' : Pos) (n1 : Nat) (pt : Pos) : t = .two i j → tg = .Tuple [.Name y p, .Name z p'] n1 pt → ys = [y, z] → S.vars[i]? = some y → S.vars[j]? = some z → TgI S t tg ys
theorem agTg_inv {t : Tg} {tg : Expr} {ys : List Str} (h : agTg S t tg = some ys) : TgI S t tg ys := by
  cases t with
  | one i =>
    obtain ⟨y, hy, h⟩ := Option.bind_eq_some_iff.mp h
    refine Exists.elim (nameOf_inv hy) fun p hx => ?_; obtain rfl := hx
    have hq4 := ite_some' h; exact .one _ _ _ rfl rfl hq4.2 hq4.1
  | two i j =>
    obtain ⟨q, hq3⟩ := Option.bind_eq_some_iff.mp h
    obtain ⟨y, hq2⟩ := Option.bind_eq_some_iff.mp hq3.2
    obtain ⟨z, hq1⟩ := Option.bind_eq_some_iff.mp hq2.2
    refine Exists.elim (pairOf_inv hq3.1) fun n hx => ?_; obtain ⟨pt, e0⟩ := hx
    refine Exists.elim (nameOf_inv hq2.1) ?_; rintro p e1
    refine Exists.elim (nameOf_inv hq1.1) ?_; rintro p' e2
    have hq0 := ite_some' hq1.2; exact .two i j y z p p' n pt rfl ((e0 ▸ e1 ▸ e2 ▸ rfl)) hq0.2 hq0.1.1 hq0.1.2
theorem ag_nil {es : List Expr} (h : agEs P S .nil es = true) : es = [] := List.isEmpty_iff.mp h
theorem ag_cons {m : ME} {ms : MEs} {es : List Expr} (h : agEs P S (.cons m ms) es = true) : ∃ e r, es = e :: r ∧ (agE P S m e && agEs P S ms r) = true := by
  cases es with
  | nil => exact ff h
  | cons e r => exact ⟨e, r, rfl, h⟩
theorem ag_iter {n : String} {ms : MEs} (h2 : (match iterArgs n S e with | some es => agEs P S ms es | none => false) = true) : ∃ f p args pos, e = .Call (.Name f p) args [] pos ∧ (f = Str.ofString n ∧ glob S f = true ∧ noStar args = true ∧ args.isEmpty = false) ∧ agEs P S ms args = true := by
  cases hr : iterArgs n S e with
  | none => rw [hr] at h2; exact nomatch h2
  | some es =>
    rw [hr] at h2
    have h2 : agEs P S ms es = true := h2
    cases e <;> first
      | exact nn hr
      | (rename_i g as kw pos
         cases g <;> first
           | exact nn hr
           | (cases kw with
              | nil => obtain ⟨h1, rfl⟩ := ite_some' hr; exact ⟨_, _, _, _, rfl, h1, h2⟩
              | cons _ _ => exact nn hr))
end
noncomputable def SpecMono (Φ : Spec) : Prop := ∀ f vs (Q Q' : Post) σ, Φ f vs Q σ → (∀ d σ', Q d σ' → Q' d σ') → Φ f vs Q' σ
structure Lnk (W : Wd) (A : Around) (P : Pg) (Φ : Spec) (Gc : Nat → V) : Prop where
  fn : ∀ f g, P.fns[f]? = some g → ∃ a o fd, W.mg g = some (.ref a) ∧ W.s₀.heap.get? a = some o ∧ o.data = .func fd ∧
    ∀ C ls σ s vs xs Q, C.W = W → C.A = A → Good C σ ls s → Reals s.heap (C.D σ) vs xs → Φ f xs Q σ → TrE C ls (call (.ref a) vs) (RV C Q) σ s
  gc : ∀ k x, P.gcs[k]? = some x → ∃ v, W.mg x = some v ∧ ∀ h D, Real h D v (Gc k)
  blt : Blt W
  mono : SpecMono Φ

/-- what an expression's walk is given -/
structure Sit (C : Cx) (S : Sc) (P : Pg) (Φ : Spec) (Gc : Nat → V) : Prop where
  R : Rm C
  of : S.Of C
  lnk : Lnk C.W C.A P Φ Gc

section
variable {C : Cx} {S : Sc} {P : Pg} {Φ : Spec} {Gc : Nat → V} {ls : Ls} {σ : View} {s : Shared}

theorem Sit.comp (T : Sit C S P Φ Gc) (hk : C.env.scope.kind = .function) {scope : Scope} {cl : List (Str × Addr)} {L a : Addr} {wr : List Addr} : Sit (C.comp scope cl L a wr) (S.comp scope) P Φ Gc :=
  ⟨⟨T.R.ok, T.R.hh, T.R.units⟩, comp_of T.of hk, T.lnk⟩
theorem Sit.more (T : Sit C S P Φ Gc) {wr : List Addr} : Sit (C.more wr) S P Φ Gc := ⟨⟨T.R.ok, T.R.hh, T.R.units⟩, ⟨T.of.names, T.of.vars⟩, T.lnk⟩

theorem isLoc_kind (h : isLoc S x = true) : (S.names.lookup x = some .local ∨ S.names.lookup x = some .cell ∨ S.names.lookup x = some .free) ∧ (x == ("__debug__" : Str)) = false ∧ (x == ("__classdict__" : Str)) = false := by
  unfold isLoc at h
  simp only [Bool.and_eq_true, Bool.not_eq_true'] at h
  refine ⟨?_, h.1.2, h.2⟩
  have h1 := h.1.1
  split at h1
  · rename_i e; exact .inl e
  · rename_i e; exact .inr (.inl e)
  · rename_i e; exact .inr (.inr e)
  · exact ff h1

theorem tr_var (T : Sit C S P Φ Gc) (G : Good C σ ls s) {i : Nat} {x : Str} {pos : Pos} {Q : Post} (hi : S.vars[i]? = some x) (hl : isLoc S x = true) (h : ∃ d, ls i = some d ∧ Q d σ) : TrE C ls (eval (.Name x pos) C.env) (RV C Q) σ s := by
  refine Exists.elim h ?_; rintro d hq2
  obtain ⟨hk, hq1⟩ := isLoc_kind hl
  refine Exists.elim (G.fr.val i x d ((T.of.vars ▸ hi)) (by rw [kindOf_eq T.of]; exact hk) hq2.1) ?_; rintro v hq0
  have fin : EOut C ls (RV C Q) s.heap σ v s := ⟨σ, G, Step.refl _ _ _, d, hq0.2, hq2.2⟩
  rcases hq0.1 with ⟨hloc, m, hm, e⟩ | ⟨hc | hc, c, hc', hcell⟩
  · exact wpAny_Name (wpAny_loadName_local G.fr.kind hloc hm e fin) hq1.1
  · exact wpAny_Name (wpAny_loadName_cell G.fr.kind hc hc' hcell fin) hq1.1
  · exact wpAny_Name (wpAny_loadName_free G.fr.kind hc hc' hcell fin hq1.2) hq1.1

theorem tr_lit (G : Good C σ ls s) {d : V} {c : Const} {k : Nat} {pos : Pos} {Q : Post} (h : litOk d c = true) (q : Q d σ) : TrE C ls (eval (.Constant c k pos) C.env) (RV C Q) σ s := by
  have no : ∀ {P : Prop}, false = true → P := fun h => (ff h)
  cases d with
  | none => cases c <;> first | exact no h | exact TrE.pure G ⟨_, .none, q⟩
  | bool a => cases c <;> first | exact no h | (have h : (a == _) = true := h; replace h := of_decide_eq_true h; subst h; exact TrE.pure G ⟨_, .bool _, q⟩)
  | int a => cases c <;> first | exact no h | (have h : (a == _) = true := h; replace h := of_decide_eq_true h; subst h; exact wpAny_Constant_int ⟨σ, G.toks _, Step.refl _ _ _, _, .int _ _, q⟩)
  | str a =>
    cases c <;> first
      | exact no h
      | (have h : (a == _ && PyData.strOk a && decide (a.cps.size ≤ 1000)) = true := h
         simp only [Bool.and_eq_true, beq_iff_eq, decide_eq_true_eq] at h
         obtain ⟨⟨rfl, h1⟩, h2⟩ := h
         exact PySem.Calls.Constant_str ⟨σ, G.toks _, Step.refl _ _ _, _, .str _ _ h1 (Nat.le_trans h2 (by decide)), q⟩)
  | _ => cases c <;> exact no h

theorem truthy_of {v : Value} {d : V} {b : Bool} {Q : Bool → Shared → Prop} {E : Value → Shared → Prop} {M : Model} {A : Around} {D : Addr → Prop} (r : Real s.heap D v d) (h : truthV d = some b) (q : Q b s) : wpAny M A (truthy v) Q E s := by
  unfold truthV at h
  split at h
  · obtain rfl := r.none_i; cases h; exact fun _ _ _ => q
  · obtain rfl := r.bool_i; cases h; exact wpAny_truthy_bool q
  · exact nn h
theorem tr_truthy (G : Good C σ ls s) {v : Value} {d : V} {b : Bool} {Q : Bool → View → Shared → Prop} (r : Real s.heap (C.D σ) v d) (h : truthV d = some b) (q : Q b σ s) : TrE C ls (truthy v) Q σ s := truthy_of r h (TrE.end G q)

theorem tr_dict (G : Good C σ ls s) {pos : Pos} {m : Bool} {Q : Post} (hW : C.W.Ok) (h : if m then ∀ a, σ a = none → Q (.ref a) (σ.upd a (.dict false [])) else Q (.dct []) σ) : TrE C ls (eval (.Dict [] [] pos) C.env) (RV C Q) σ s := by
  cases m with
  | true =>
    skip
    refine TrE.newCell (c := .dict false []) G (wpAny_Dict_empty ⟨_, _, s.toks, rfl, rfl, fun b o e => Heap.get?_push_of_some _ e, Nat.le_refl _, #[], 0, Heap.get?_push_size _ rfl, by simp, by simp, .nil⟩) h
  | false =>
    skip
    refine Gives.then (d := .dct []) (Gives.new G (o := dictObj #[] 0) ?_ (wpAny_Dict_empty ⟨rfl, s.toks, rfl⟩)) h
    exact .dct (Heap.get?_push_size _ rfl) (by simp) (by simp) (Nat.lt_of_lt_of_le hW.two G.larger) G.newAddr .nil
end
end Mine
end

section

open PySem PyProof.Rows
namespace Mine
section
variable {C : Cx} {S : Sc} {P : Pg} {Φ : Spec} {Gc : Nat → V} {ls : Ls} {σ : View} {s : Shared}

theorem tr_test_plain {e : Expr} (h : tplain e = true) {Q : Bool → View → Shared → Prop} (hv : TrE C ls (eval e C.env) (fun v σ' s' => ∃ d b, Real s'.heap (C.D σ') v d ∧ truthV d = some b ∧ Q b σ' s') σ s) :
    TrE C ls (isTrue e C.env (eval e C.env)) Q σ s := by
  have dflt : isTrue e C.env (eval e C.env) = (do let v ← eval e C.env; standAt e.pos; holding [v] (truthy v)) → TrE C ls (isTrue e C.env (eval e C.env)) Q σ s := by
    intro he
    rw [he]
    exact TrE.bind (TrE.mono hv fun v σ' s' G' _ ⟨d, b, r, hb, q⟩ => TrE.bind (TrE.standAt G' (TrE.holding (tr_truthy G' r hb q))))
  cases e <;> first
    | exact dflt rfl
    | exact ff h
    | skip
  · rename_i op x pos
    cases op <;> first | exact dflt rfl | exact ff h
  · rename_i l ops rs pos
    match ops, rs, h with
    | [op], [r], h =>
      have h : notSet r = true := h
      rw [isTrue_Compare1, markedBehindIn_of_false (notSet_marks h)]
      rw [eval_Compare1, markedBehindIn_of_false (notSet_marks h)] at hv
      have e : (do let a ← eval l C.env; let b ← holding [a] (eval r C.env); standAt pos; let c ← operate [a, b] (compareOp op a b); holding [c] (truthy c) : Sem Bool) =
          ((do let a ← eval l C.env; let b ← holding [a] (eval r C.env); standAt pos; operate [a, b] (compareOp op a b)) >>= fun c => holding [c] (truthy c)) := by
        simp only [bind_assoc]
      rw [e]
      exact TrE.bind (TrE.mono hv fun v σ' s' G' _ ⟨d, b, r, hb, q⟩ => TrE.holding (tr_truthy G' r hb q))

theorem shp_tplain {o : Op} {e : Expr} {es : List Expr} (h : shp S o e = some es) : tplain e = true := by
  cases shp_inv h <;> first | rfl | assumption
theorem mshp_tplain {o : Op} {e b : Expr} {es : List Expr} (h : mshp o e = some (b, es)) : tplain e = true := by
  refine Exists.elim (mshp_inv h) fun name hx => ?_; obtain ⟨apos, pos, n, T, id, rfl, _⟩ := hx; rfl

theorem callWith_fn (T : Sit C S P Φ Gc) {pos : Pos} {f : Nat} {g : Str} {args : List Expr} {Q : Post} (hf : P.fns[f]? = some g) (hn : args.isEmpty = false) (G : Good C σ ls s) {a : Addr} (ha : C.W.mg g = some (.ref a))
    (h : Ev C ls args (fun vs σ' s' => Good C σ' ls s' ∧ ∃ xs, Reals s'.heap (C.D σ') vs xs ∧ Φ f xs Q σ') σ s) : TrE C ls (callWith pos (.ref a) [] (args.map fun e => (false, eval e C.env)) []) (RV C Q) σ s := by
  refine Exists.elim (T.lnk.fn f g hf) fun a' hx => ?_; obtain ⟨o, fd, h1, hq0⟩ := hx
  cases Eq.trans (Eq.symm ha) h1
  have hs := spliced_ev G h
  have hsp : wpAny (model C.W.prog C.W.w) C.A (spliced (args.map fun e => (false, eval e C.env))) (fun vs s₁ => (s₁.heap.get? a = some o ∧ o.data = .func fd) ∧ wpAny (model C.W.prog C.W.w) C.A (call (.ref a) ([] ++ vs)) (EOut C ls (RV C Q) s.heap σ) (fun _ _ => False) s₁) (fun _ _ => False) s :=
    wpAny_mono hs (fun vs s₁ hx => by obtain ⟨σ₁, G₁, S₁, _, xs, rs, hφ⟩ := hx; exact ⟨⟨G₁.stays _ _ hq0.1, hq0.2.1⟩, wpAny_mono (hq0.2.2 C ls σ₁ s₁ vs xs Q rfl rfl G₁ rs hφ) (fun v s₂ hx => by obtain ⟨σ₂, G₂, S₂, q⟩ := hx; exact ⟨σ₂, G₂, S₁.trans S₂, q⟩) fun _ _ x => x⟩) fun _ _ x => x
  cases args with
  | nil => exact ff2 hn
  | cons e es => exact PySem.Calls.callWith_function (PySem.Calls.evalArgs_plain hsp)
end
end Mine
end

section

open PySem PyProof.Rows
namespace Mine
section
variable {C : Cx} {S : Sc} {P : Pg} {Φ : Spec} {Gc : Nat → V} {ls : Ls} {σ : View} {s : Shared}

theorem folded_plain {iter : Expr} {env : Env} (h : notSet iter = true) (x : Value) : foldedSetIterable iter env x = pure x := by
  skip
  cases iter <;> first | rfl | exact ff h

/-- a loop's source -/
inductive SrcR (C : Cx) (ls : Ls) (t : Tg) (tgt : Expr) (Q : List V → List V → View → Prop) (h : Heap) (σ : View) (r : Value) (s' : Shared) : Prop
  | mk (σ₁ : View) (s₁ : Shared) (us xs : List V) : Good C σ₁ ls s₁ → Step C.own h σ s₁.heap σ₁ → Src C tgt (rpOf t) s₁ σ₁ us xs r s' → Q xs us σ₁ → SrcR C ls t tgt Q h σ r s'
noncomputable def SrcAt (C : Cx) (ls : Ls) (t : Tg) (tgt iter : Expr) (Q : List V → List V → View → Prop) (σ : View) (s : Shared) : Prop :=
  wpAny (model C.W.prog C.W.w) C.A (eval iter C.env) (SrcR C ls t tgt Q s.heap σ) (fun _ _ => False) s
theorem SrcAt.mono {t : Tg} {tgt iter : Expr} {Q Q' : List V → List V → View → Prop} (h : SrcAt C ls t tgt iter Q σ s) (k : ∀ xs us σ₁, Q xs us σ₁ → Q' xs us σ₁) : SrcAt C ls t tgt iter Q' σ s :=
  wpAny_mono h (fun r s' x => by obtain ⟨σ₁, s₁, us, xs, G, S, c, q⟩ := x; exact ⟨σ₁, s₁, us, xs, G, S, c, k _ _ _ q⟩) fun _ _ x => x
/-- what a comprehension's walk is given -/
inductive CompQ (C : Cx) (ls : Ls) (scope : Scope) (t : Tg) (elt : Expr) (ifs : List Expr) (fin : List V → View → List V → View → Prop) (xs us : List V) (σ₁ : View) : Prop
  | mk (J : Nat → List V → View → Prop) : xs.length ≤ big → J 0 [] (lockV σ₁ us) →
    (∀ cl L a wr k v acc σ₂ s₂, Good (C.comp scope cl L a wr) σ₂ (t.up v ls) s₂ → xs[k]? = some v → J k acc σ₂ → TrE (C.comp scope cl L a wr) (t.up v ls) (testsT ifs (C.comp scope cl L a wr).env) (fun ok σ₃ s₃ =>
      if ok = true then TrE (C.comp scope cl L a wr) (t.up v ls) (eval elt (C.comp scope cl L a wr).env) (RV (C.comp scope cl L a wr) fun d σ₄ => J (k + 1) (acc ++ [d]) σ₄) σ₃ s₃ else J (k + 1) acc σ₃) σ₂ s₂) →
    (∀ acc σ₂, J xs.length acc σ₂ → fin us σ₁ acc σ₂) → CompQ C ls scope t elt ifs fin xs us σ₁
noncomputable def CompHyp (C : Cx) (ls : Ls) (scope : Scope) (t : Tg) (tgt iter elt : Expr) (ifs : List Expr) (fin : List V → View → List V → View → Prop) (σ : View) (s : Shared) : Prop :=
  SrcAt C ls t tgt iter (CompQ C ls scope t elt ifs fin) σ s

/-- a comprehension's targets are its own names -/
theorem comp_asg (T : Sit C S P Φ Gc) (hk : C.env.scope.kind = .function) {scope : Scope} {cl : List (Str × Addr)} {L a : Addr} {wr : List Addr} {t : Tg} {tgt : Expr} {ys : List Str} (hc : compOk S scope ys = true) (hy : agTg S t tgt = some ys) : Asg (C.comp scope cl L a wr) tgt (rpOf t) t.up := by
  have hl : ∀ y ∈ ys, Stor (C.comp scope cl L a wr) y := fun y hm => by
    refine .inl ?_
    show (relabel scope C.env).names.lookup y = some .local
    simp only [comp_names T.of hk, relab_lookup, (compOk_parts hc).2.1 y hm]
    rfl
  have hv : (C.comp scope cl L a wr).vars = S.vars := T.of.vars
  rcases agTg_inv hy with ⟨i, y, p, rfl, rfl, rfl, h1⟩ | ⟨i, j, y, z, p, p', n1, pt, rfl, rfl, rfl, h1, h2⟩
  · exact asg1 ((hv ▸ h1)) (hl y (.head _))
  · exact asg2 T.R.hh ((hv ▸ h1)) (hl y (.head _)) ((hv ▸ h2)) (hl z (.tail _ (.head _)))
theorem tg_idx {t : Tg} {tgt : Expr} {ys : List Str} (hy : agTg S t tgt = some ys) : ∀ z ∈ ys, ∃ i ∈ t.idx, S.vars[i]? = some z := by
  intro z hz
  rcases agTg_inv hy with ⟨i, y, p, rfl, rfl, rfl, h1⟩ | ⟨i, j, y, z', p, p', n1, pt, rfl, rfl, rfl, h1, h2⟩
  · cases hz with
    | head => exact ⟨i, .head _, h1⟩
    | tail _ h => cases h
  · cases hz with
    | head => exact ⟨i, .head _, h1⟩
    | tail _ h =>
      cases h with
      | head => exact ⟨j, .tail _ (.head _), h2⟩
      | tail _ h => cases h

theorem comp_walk (T : Sit C S P Φ Gc) (G : Good C σ ls s) {scope : Scope} {t : Tg} {ys : List Str} {pos : Pos} {tgt iter elt : Expr} {ifs : List Expr} {fin : List V → View → List V → View → Prop} (hc : compOk S scope ys = true) (hy : agTg S t tgt = some ys) (hns : notSet iter = true)
    (h : CompHyp C ls scope t tgt iter elt ifs fin σ s) {use : Option (Value → Sem Unit)} {Q : Value → Shared → Prop}
    (hend : ∀ (σ₁ : View) (s₁ : Shared) us acc σ₂ L a (s₄ : Shared), Step C.own s.heap σ s₁.heap σ₁ → fin us σ₁ acc σ₂ → (∃ m, s₄.heap.Ns L m) → s₁.heap.objs.size ≤ L → (∀ b, C.own b ∨ C.B b → b ≠ L) →
      (Good (C.more [L]) (unlockV σ₁ us σ₂) ls s₄ ∧ Step C.own s₁.heap σ₁ s₄.heap (unlockV σ₁ us σ₂) ∧ Real s₄.heap ((C.more [L]).D (unlockV σ₁ us σ₂)) (.ref a) (.lst acc)) →
      (Good (C.more [L]) ((unlockV σ₁ us σ₂).upd a (.list false acc)) ls s₄ ∧ Step C.own s₁.heap σ₁ s₄.heap ((unlockV σ₁ us σ₂).upd a (.list false acc)) ∧ unlockV σ₁ us σ₂ a = none) →
      compPost (model C.W.prog C.W.w) C.A (fun _ _ => False) use Q (.ref a) L (.ok .next) s₄) :
    wpAny (model C.W.prog C.W.w) C.A (comprehension (.ListComp elt [⟨tgt, iter, ifs, 0⟩] scope pos) scope C.env (firstIterPos [⟨tgt, iter, ifs, 0⟩] pos) (newList []) (firstAsync [⟨tgt, iter, ifs, 0⟩]) (firstIter [⟨tgt, iter, ifs, 0⟩] C.env) use) Q (fun _ _ => False) s := by
  have hq1 := compOk_parts hc
  obtain ⟨cl, hcl⟩ := closOf_some C.env.cells scope.names [] fun n hm => G.fr.has n (by rw [kindOf_eq T.of]; exact (hq1.2.2 n _ hm).2.2.1 rfl)
  refine wpAny_comprehension_free (use := use) rfl (folded_plain hns) (closureFor_of hcl) hq1.1 (fun x hx hl => by have := (hq1.2.2 x.1 x.2 hx).2.1; simp only [hl] at this; exact this) ?_
  skip
  refine wpAny_mono h ?_ fun _ _ x => x
  rintro r s' ⟨σ₁, s₁, us, xs, G₁, S₁, src, J, hbig, hJ, hturn, hfin⟩
  refine src _ fun it wr h₂ tk fp Pp St I st k₂ hz₂ => ?_
  refine comp_loop T.R T.of G₁ I st k₂ hz₂ hbig hc (tg_idx hy) hcl (fun L a => comp_asg T G.fr.kind hc hy) J hJ (RR := fun acc L => compPost (model C.W.prog C.W.w) C.A (fun _ _ => False) use Q acc L) (fun L a k v acc σ₂ s₂ G₂ hv hJ₂ => ?_) fun L a vs n acc σ₂ s₃ h₄ tk hL ha hw haL Gr S₃ hav hvz rs hns3 k hz hJf => ?_
  · exact hturn cl L a wr k v acc σ₂ s₂ G₂ hv hJ₂
  · have hq0 := comp_end (tk := tk) G₁ hL ha hw haL Gr S₃ hav hvz rs hns3 k hz
    exact hend σ₁ s₁ us acc σ₂ L a _ S₁ (hfin acc σ₂ hJf) hq0.2.2 hL (fun b hb => Nat.ne_of_lt (Nat.lt_of_lt_of_le (G₁.toGround.lt (.inr hb)) hL)) hq0.1 hq0.2.1

theorem comp_value (T : Sit C S P Φ Gc) (G : Good C σ ls s) {m : Bool} {scope : Scope} {t : Tg} {ys : List Str} {pos : Pos} {tgt iter elt : Expr} {ifs : List Expr} {Q : Post} (hc : compOk S scope ys = true) (hy : agTg S t tgt = some ys) (hns : notSet iter = true)
    (h : CompHyp C ls scope t tgt iter elt ifs (fun us σ₁ acc σ₂ => if m = true then ∀ a, unlockV σ₁ us σ₂ a = none → Q (.ref a) ((unlockV σ₁ us σ₂).upd a (.list false acc)) else Q (.lst acc) (unlockV σ₁ us σ₂)) σ s) :
    TrE C ls (eval (.ListComp elt [⟨tgt, iter, ifs, 0⟩] scope pos) C.env) (RV C Q) σ s := by
  skip
  refine comp_walk T G hc hy hns h fun σ₁ s₁ us acc σ₂ L a s₄ S₁ hf hL hLs hne e1 e2 => ⟨hL.choose, hL.choose_spec, fun h' hs' => ?_⟩
  have nw : ∀ b, C.own b ∨ C.B b → b ∉ [L] := fun b hb h => by replace h := List.mem_singleton.mp h; exact hne b hb h
  have kk : ∀ b o, b ∉ [L] → s₄.heap.get? b = some o → h'.get? b = some o := fun b o hb e => hs'.extBut b o (by simpa using hb) e
  have Lv : ∀ τ : View, Leaves s₄.heap ((C.more [L]).D τ) h' (C.D τ) := fun τ b o e hd => ⟨kk b o (fun h => hd ((D_more b).mpr (.inr h))) e, fun h => hd ((D_more b).mpr (.inl h))⟩
  have St : ∀ τ : View, Step C.own s₁.heap σ₁ s₄.heap τ → Step C.own s.heap σ h' τ := fun τ S₂ => by
    have hLn : ∀ b o, s₁.heap.get? b = some o → b ∉ [L] := fun b o e h => by replace h := List.mem_singleton.mp h; exact absurd (Heap.lt_size e) (Nat.not_lt.mpr ((h ▸ hLs)))
    exact S₁.trans ⟨fun b o e hr ho => kk b o (hLn b o e) (S₂.keep b o e hr ho), (hs'.1 ▸ S₂.size), S₂.grow, S₂.ro⟩
  cases m with
  | false =>
    skip
    exact ⟨_, Good.endL (tk := s₄.toks) G e1.1 nw (Nat.le_of_eq hs'.1.symm) kk, St _ e1.2.1, .lst acc, e1.2.2.leaves (Lv _), hf⟩
  | true =>
    skip
    exact ⟨_, Good.endL (tk := s₄.toks) G e2.1 nw (Nat.le_of_eq hs'.1.symm) kk, St _ e2.2.1, .ref a, .ref a, hf a e2.2.2⟩

/-- statements: on, or back with a value -/
inductive FlowN (C : Cx) (Q : View → Ls → Prop) (σ : View) (s : Shared) : Prop
  | mk (ls : Ls) : Good C σ ls s → Q σ ls → FlowN C Q σ s
inductive FlowR (C : Cx) (R : Post) (v : Value) (σ : View) (s : Shared) : Prop
  | mk (ls : Ls) (x : V) : Good C σ ls s → Real s.heap (C.D σ) v x → R x σ → FlowR C R v σ s
noncomputable def FlowOk (C : Cx) (Q : View → Ls → Prop) (R : Post) (f : Flow) (σ : View) (s : Shared) : Prop := match f with
  | .next => FlowN C Q σ s
  | .ret v => FlowR C R v σ s
  | _ => False
inductive SOut (C : Cx) (Q : View → Ls → Prop) (R : Post) (h : Heap) (σ : View) (f : Flow) (s' : Shared) : Prop
  | mk (σ' : View) : Step C.own h σ s'.heap σ' → FlowOk C Q R f σ' s' → SOut C Q R h σ f s'
noncomputable def TrS (C : Cx) (t : Sem Flow) (Q : View → Ls → Prop) (R : Post) (σ : View) (s : Shared) : Prop :=
  wpAny (model C.W.prog C.W.w) C.A t (SOut C Q R s.heap σ) (fun _ _ => False) s
theorem TrS.after {t : Sem Flow} {Q : View → Ls → Prop} {R : Post} {h₀ : Heap} {σ₀ : View} (S₀ : Step C.own h₀ σ₀ s.heap σ) (h : TrS C t Q R σ s) : wpAny (model C.W.prog C.W.w) C.A t (SOut C Q R h₀ σ₀) (fun _ _ => False) s :=
  wpAny_mono h (fun f s' x => by obtain ⟨σ', S', hf⟩ := x; exact ⟨σ', S₀.trans S', hf⟩) fun _ _ x => x

theorem comp_assign (T : Sit C S P Φ Gc) (G : Good C σ ls s) {m : Bool} {scope : Scope} {x : Str} {t : Tg} {ys : List Str} {ti : Nat} {pt pos spos : Pos} {tgt iter elt : Expr} {ifs : List Expr} {Q : View → Ls → Prop} {Rt : Post} (hc : compOk S scope ys = true) (hy : agTg S t tgt = some ys) (hns : notSet iter = true)
    (ht : S.vars[ti]? = some x) (hk : C.env.kindOf x = some .local) (hsw : swapsWith (.ListComp elt [⟨tgt, iter, ifs, 0⟩] scope pos) (some (.Name x pt)) spos.line C.env = pure true)
    (h : CompHyp C ls scope t tgt iter elt ifs (fun us σ₁ acc σ₂ => if m = true then ∀ a, unlockV σ₁ us σ₂ a = none → Q ((unlockV σ₁ us σ₂).upd a (.list false acc)) (ls.set ti (.ref a)) else Q (unlockV σ₁ us σ₂) (ls.set ti (.lst acc))) σ s) :
    TrS C (exec (.Assign [.Name x pt] (.ListComp elt [⟨tgt, iter, ifs, 0⟩] scope pos) spos) C.env) Q Rt σ s := by
  unfold TrS
  refine (exec_Assign_Name_used _ _ _ _ hsw) ▸ ?_
  refine wpAny_bind (wpAny_standAt (wpAny_bind ?_))
  skip
  refine wpAny_bind (comp_walk (use := some (assign (.Name x pt) C.env)) (Q := fun _ s' => wpAny (model C.W.prog C.W.w) C.A (pure ()) (fun _ s'' => wpAny (model C.W.prog C.W.w) C.A (pure Flow.next) (SOut C Q Rt s.heap σ) (fun _ _ => False) s'') (fun _ _ => False) s') T G hc hy hns h fun σ₁ s₁ us acc σ₂ L a s₄ S₁ hf hL hLs hne e1 e2 => ?_)
  have nw : ∀ b, C.own b ∨ C.B b → b ∉ [L] := fun b hb h => by replace h := List.mem_singleton.mp h; exact hne b hb h
  have main : ∀ (τ : View) (d : V), Good (C.more [L]) τ ls s₄ → Step C.own s₁.heap σ₁ s₄.heap τ → Real s₄.heap ((C.more [L]).D τ) (.ref a) d → Q τ (ls.set ti d) →
      wpAny (model C.W.prog C.W.w) C.A (assign (.Name x pt) C.env (.ref a)) (fun _ s'' => ∃ m, s''.heap.Ns L m ∧ ∀ h', Heap.SameBut L s''.heap h' → wpAny (model C.W.prog C.W.w) C.A (pure ()) (fun _ s'' => wpAny (model C.W.prog C.W.w) C.A (pure Flow.next) (SOut C Q Rt s.heap σ) (fun _ _ => False) s'') (fun _ _ => False) { s'' with heap := h' }) (fun _ _ => False) s₄ := by
    intro τ d Gm Sm rd hq
    refine wpAny_assign_Name ?_
    refine store (C := C.more [L]) (i := ti) (d := d) Gm (by rw [more_vars, T.of.vars]; exact ht) (.inl hk) rd fun s₅ G₅ S₅ => ?_
    obtain ⟨m', hm'⟩ := hL
    refine ⟨m', hm'.at' fun o e => S₅.keep L o e (Rw.of_none (Gm.apart L (.inr (.inr (.head _))))) fun h => Gm.apart2 L h (.inr (.head _)), fun h' hs' => ?_⟩
    have kk : ∀ b o, b ∉ [L] → s₅.heap.get? b = some o → h'.get? b = some o := fun b o hb e => hs'.extBut b o (by simpa using hb) e
    have hLn : ∀ b o, s₁.heap.get? b = some o → b ∉ [L] := fun b o e h => by replace h := List.mem_singleton.mp h; exact absurd (Heap.lt_size e) (Nat.not_lt.mpr ((h ▸ hLs)))
    have S₆ := Sm.trans S₅
    refine wpAny_pure (wpAny_pure ⟨τ, S₁.trans ⟨fun b o e hr ho => kk b o (hLn b o e) (S₆.keep b o e hr ho), (hs'.1 ▸ S₆.size), S₆.grow, S₆.ro⟩, ls.set ti d, ?_, hq⟩)
    exact Good.endL (tk := s₅.toks) G G₅ nw (Nat.le_of_eq hs'.1.symm) kk
  skip
  cases m with
  | false =>
    skip
    exact main _ _ e1.1 e1.2.1 e1.2.2 hf
  | true =>
    skip
    exact main _ _ e2.1 e2.2.1 (.ref a) (hf a e2.2.2)
end
end Mine
end

section

open PySem PyProof.Rows
set_option linter.unusedVariables false
namespace Mine
theorem ex_mono {Q Q' : Post} {σ : View} {o : Op} {vs : List V} (h : ∃ d, pureOp o σ vs = some d ∧ Q d σ) (k : ∀ d σ', Q d σ' → Q' d σ') : ∃ d, pureOp o σ vs = some d ∧ Q' d σ := by refine Exists.elim h ?_; rintro d hq0; exact ⟨d, hq0.1, k _ _ hq0.2⟩
theorem q1_mono {f g : V → Prop} {vs : List V} (h : q1 f vs) (k : ∀ x, f x → g x) : q1 g vs := by refine Exists.elim (q1_inv h) fun x hx => ?_; obtain ⟨rfl, h⟩ := hx; exact k x h
theorem q2_mono {f g : V → V → Prop} {vs : List V} (h : q2 f vs) (k : ∀ x y, f x y → g x y) : q2 g vs := by refine Exists.elim (q2_inv h) fun x hx => ?_; obtain ⟨y, rfl, h⟩ := hx; exact k x y h
theorem onR_mono {f g : Addr → Prop} {v : V} (h : onR f v) (k : ∀ a, f a → g a) : onR g v := by refine Exists.elim (onR_inv h) fun a hx => ?_; obtain ⟨rfl, h⟩ := hx; exact k a h
theorem onI_mono {f g : Int → Prop} {v : V} (h : onI f v) (k : ∀ a, f a → g a) : onI g v := by refine Exists.elim (onI_inv h) fun a hx => ?_; obtain ⟨rfl, h⟩ := hx; exact k a h
theorem onL_mono {f g : List V → Prop} {v : V} (h : onL f v) (k : ∀ a, f a → g a) : onL g v := by refine Exists.elim (onL_inv h) fun a hx => ?_; obtain ⟨rfl, h⟩ := hx; exact k a h
theorem prim_mono {o : Op} {vs : List V} {Q Q' : Post} {σ : View} (h : prim o vs Q σ) (k : ∀ d σ', Q d σ' → Q' d σ') : prim o vs Q' σ := by
  cases o <;> first
    | exact ex_mono h k
    | exact q1_mono h fun x h => by refine Exists.elim h ?_; rintro xs hq3; exact ⟨xs, hq3.1, fun a ha => k _ _ (hq3.2 a ha)⟩
    | exact q2_mono h fun x y h => onR_mono h fun a h => by refine Exists.elim h ?_; rintro xs hq2; exact ⟨xs, hq2.1, hq2.2.1, k _ _ hq2.2.2⟩
    | exact q2_mono h fun x y h => onR_mono h fun a h => onL_mono h fun l h => by refine Exists.elim h ?_; rintro xs hq1; exact ⟨xs, hq1.1, hq1.2.1, k _ _ hq1.2.2⟩
    | exact q2_mono h fun x y h => onR_mono h fun a h => onI_mono h fun l h => by refine Exists.elim h fun xs hx => ?_; obtain ⟨x, hq0⟩ := hx; exact ⟨xs, x, hq0.1, hq0.2.1, k _ _ hq0.2.2⟩
    | exact ⟨h.1, fun a ha => k _ _ (h.2 a ha)⟩

section
variable {Φ : Spec} {G : Nat → V}
noncomputable def MonE (Φ : Spec) (G : Nat → V) (m : ME) : Prop := ∀ {ls : Ls} {Q Q' : Post} {σ : View}, ewp Φ G ls m Q σ → (∀ d σ', Q d σ' → Q' d σ') → ewp Φ G ls m Q' σ
noncomputable def MonEs (Φ : Spec) (G : Nat → V) (ms : MEs) : Prop := ∀ {ls : Ls} {Q Q' : List V → View → Prop} {σ : View}, ewps Φ G ls ms Q σ → (∀ vs σ', Q vs σ' → Q' vs σ') → ewps Φ G ls ms Q' σ
noncomputable def MonA (Φ : Spec) (G : Nat → V) (ms : MEs) : Prop := ∀ {ls : Ls} {Q Q' : Post} {σ : View}, ewpAnd Φ G ls ms Q σ → (∀ d σ', Q d σ' → Q' d σ') → ewpAnd Φ G ls ms Q' σ
noncomputable def MonO (Φ : Spec) (G : Nat → V) (ms : MEs) : Prop := ∀ {ls : Ls} {Q Q' : Post} {σ : View}, ewpOr Φ G ls ms Q σ → (∀ d σ', Q d σ' → Q' d σ') → ewpOr Φ G ls ms Q' σ
noncomputable def MonI (Φ : Spec) (G : Nat → V) (it : MI) : Prop := ∀ {ls : Ls} {Q Q' : List V → List V → View → Prop} {σ : View}, ewpI Φ G ls it Q σ → (∀ xs us σ', Q xs us σ' → Q' xs us σ') → ewpI Φ G ls it Q' σ
theorem m_var {i : Nat} : MonE Φ G (.var i) := fun h k => by refine Exists.elim h ?_; rintro d hq0; exact ⟨d, hq0.1, k _ _ hq0.2⟩
theorem m_op {o : Op} {args : MEs} (ih : MonEs Φ G args) : MonE Φ G (.op o args) := fun h k => ih h fun vs σ' h' => prim_mono h' k
theorem m_meth {o : Op} {b : ME} {args : MEs} (ih0 : MonE Φ G b) (ih : MonEs Φ G args) : MonE Φ G (.meth o b args) := fun h k => ih0 h fun x σ₁ h => ⟨h.1, ih h.2 fun vs σ' h' => prim_mono h' k⟩
theorem m_dict {m : Bool} {ks : List Int} {vs : MEs} (ih : MonEs Φ G vs) : MonE Φ G (.dict m ks vs) := fun h k => ih h fun vv σ' h => by
  refine ⟨h.1, h.2.1, ?_⟩
  have h3 := h.2.2
  cases m with
  | true => exact fun a ha => k _ _ (h3 a ha)
  | false => exact k _ _ h3
theorem m_not {m : ME} (ih : MonE Φ G m) : MonE Φ G (.not m) := fun h k => ih h fun d σ' h => by refine Exists.elim h ?_; rintro b hq0; exact ⟨b, hq0.1, k _ _ hq0.2⟩
theorem m_comp {m : Bool} {elt : ME} {x : Tg} {it : MI} {ifs : MEs} (ih : MonI Φ G it) : MonE Φ G (.comp m elt x it ifs) := fun h k => ih h fun xs u σ₁ h => by
  obtain ⟨h0, I, hq0⟩ := h
  refine ⟨h0, I, hq0.1, hq0.2.1, fun acc σ₂ h4 => ?_⟩
  have := hq0.2.2 acc σ₂ h4
  cases m with
  | true => exact fun a ha => k _ _ (this a ha)
  | false => exact k _ _ this
theorem m_frz {m : ME} (ih : MonE Φ G m) : MonE Φ G (.frz m) := fun h k => ih h fun d σ' h => by
  refine Exists.elim h fun a hx => ?_; obtain ⟨h1, ⟨xs, e, q⟩ | ⟨es, e, q⟩⟩ := hx
  · exact ⟨a, h1, .inl ⟨xs, e, k _ _ q⟩⟩
  · exact ⟨a, h1, .inr ⟨es, e, k _ _ q⟩⟩
theorem m_and {m m2 : ME} {ms : MEs} (ih0 : MonE Φ G m) (ih : MonA Φ G (.cons m2 ms)) : MonA Φ G (.cons m (.cons m2 ms)) := fun h k => ih0 h fun d σ' h => by
  refine Exists.elim h ?_; rintro b hq0
  refine ⟨b, hq0.1, ?_⟩
  cases b with
  | true => exact ih hq0.2 k
  | false => exact k _ _ hq0.2
theorem m_or {m m2 : ME} {ms : MEs} (ih0 : MonE Φ G m) (ih : MonO Φ G (.cons m2 ms)) : MonO Φ G (.cons m (.cons m2 ms)) := fun h k => ih0 h fun d σ' h => by
  refine Exists.elim h ?_; rintro b hq0
  refine ⟨b, hq0.1, ?_⟩
  cases b with
  | false => exact ih hq0.2 k
  | true => exact k _ _ hq0.2
theorem it_mono {i : Nat} {vs : List V} {Q Q' : List V → List V → View → Prop} {σ : View} (h : itWp i vs Q σ) (k : ∀ xs us σ', Q xs us σ' → Q' xs us σ') : itWp i vs Q' σ := by refine Exists.elim h ?_; rintro xs hq0; exact ⟨xs, hq0.1, k _ _ _ hq0.2⟩
mutual
theorem mon_e (hΦ : SpecMono Φ) : ∀ m : ME, MonE Φ G m
  | .var _ => m_var
  | .lit _ => fun h k => k _ _ h
  | .gcon _ => fun h k => k _ _ h
  | .op _ args => m_op (mon_es hΦ args).1
  | .meth _ b args => m_meth (mon_e hΦ b) (mon_es hΦ args).1
  | .dict _ _ vs => m_dict (mon_es hΦ vs).1
  | .and es => (mon_es hΦ es).2.1
  | .or es => (mon_es hΦ es).2.2
  | .not m => m_not (mon_e hΦ m)
  | .call _ args => fun h k => (mon_es hΦ args).1 h fun vs σ' h' => hΦ _ _ _ _ _ h' k
  | .comp _ _ _ it _ => m_comp (mon_i hΦ it)
  | .frz m => m_frz (mon_e hΦ m)
theorem mon_es (hΦ : SpecMono Φ) : ∀ ms : MEs, MonEs Φ G ms ∧ MonA Φ G ms ∧ MonO Φ G ms
  | .nil => ⟨fun h k => k _ _ h, fun h _ => h.elim, fun h _ => h.elim⟩
  | .cons m .nil => have a := @mon_e hΦ m; ⟨fun h k => a h fun d σ' h' => k _ _ h', fun h k => a h k, fun h k => a h k⟩
  | .cons m (.cons m2 ms) => have a := @mon_e hΦ m; have b := mon_es hΦ (.cons m2 ms); ⟨fun h k => a h fun d σ' h' => b.1 h' fun vs σ'' h'' => k _ _ h'', m_and a b.2.1, m_or a b.2.2⟩
theorem mon_i (hΦ : SpecMono Φ) : ∀ it : MI, MonI Φ G it
  | .seq m => fun h k => mon_e hΦ m h fun _ _ h => it_mono h k
  | .range ms => fun h k => (mon_es hΦ ms).1 h fun _ _ h => it_mono h k
  | .enum ms => fun h k => (mon_es hΦ ms).1 h fun _ _ h => it_mono h k
end
theorem ewp_mono (hΦ : SpecMono Φ) (m : ME) {ls : Ls} {Q Q' : Post} {σ : View} (h : ewp Φ G ls m Q σ) (k : ∀ d σ', Q d σ' → Q' d σ') : ewp Φ G ls m Q' σ := mon_e hΦ m h k
theorem ewps_mono (hΦ : SpecMono Φ) (ms : MEs) {ls : Ls} {Q Q' : List V → View → Prop} {σ : View} (h : ewps Φ G ls ms Q σ) (k : ∀ vs σ', Q vs σ' → Q' vs σ') : ewps Φ G ls ms Q' σ := (mon_es hΦ ms).1 h k
theorem ewpI_mono (hΦ : SpecMono Φ) (it : MI) {ls : Ls} {Q Q' : List V → List V → View → Prop} {σ : View} (h : ewpI Φ G ls it Q σ) (k : ∀ xs us σ', Q xs us σ' → Q' xs us σ') : ewpI Φ G ls it Q' σ := mon_i hΦ it h k
end
end Mine
end

section

open PySem PyProof.Rows
set_option linter.unusedVariables false
set_option maxHeartbeats 8000000
namespace Mine
section
variable {P : Pg} {Φ : Spec} {Gc : Nat → V}

theorem callWith_argsW {C : Cx} {ls : Ls} {σ : View} {s : Shared} {pos : Pos} {f : Value} {args : List Expr} {K : List Value → View → Shared → Prop} {POST : Value → Shared → Prop} (hk : (∃ id, f = .builtin id) ∨ ∃ T, f = .type T) (hn : args.isEmpty = false) (G : Good C σ ls s)
    (h : Ev C ls args K σ s) (hK : ∀ vs σ' s', Good C σ' ls s' → Step C.own s.heap σ s'.heap σ' → K vs σ' s' → wpAny (model C.W.prog C.W.w) C.A (call f vs) POST (fun _ _ => False) s') :
    wpAny (model C.W.prog C.W.w) C.A (callWith pos f [] (args.map fun e => (false, eval e C.env)) []) POST (fun _ _ => False) s := by
  have hs := spliced_ev G h
  have hsp : wpAny (model C.W.prog C.W.w) C.A (spliced (args.map fun e => (false, eval e C.env))) (fun vs s₁ => wpAny (model C.W.prog C.W.w) C.A (call f ([] ++ vs)) POST (fun _ _ => False) s₁) (fun _ _ => False) s :=
    wpAny_mono hs (fun vs s₁ hx => by obtain ⟨σ₁, G₁, S₁, h₁⟩ := hx; exact hK vs σ₁ s₁ G₁ S₁ h₁) fun _ _ x => x
  have hp : (args.map fun e => ((false : Bool), eval e C.env)).any (·.1) = false := by simp
  cases args with
  | nil => exact ff2 hn
  | cons e es =>
    have hev : wpAny (model C.W.prog C.W.w) C.A (evalArgs f true ((e :: es).map fun e => ((false : Bool), eval e C.env)) []) (fun a s₁ => wpAny (model C.W.prog C.W.w) C.A (call f ([] ++ a.pos) a.kw) POST (fun _ _ => False) s₁) (fun _ _ => False) s :=
      PySem.Calls.evalArgs_plain hsp
    rcases hk with ⟨id, rfl⟩ | ⟨T, rfl⟩
    · exact PySem.Calls.callWith_builtin hp hev
    · exact PyProof.Rows.callWith_type hp hev
theorem tests_false (env : Env) : ∀ (r : List Expr), (forIn r false fun c r => if r = true then do let ok ← isTrue c env (eval c env); pure (ForInStep.yield ok) else pure (ForInStep.yield r) : Sem Bool) = pure false
  | [] => rfl
  | e :: r => by
    rw [List.forIn_cons]
    simp only [Bool.false_eq_true, if_false, pure_bind]
    exact tests_false env r
theorem testsT_cons (e : Expr) (r : List Expr) (env : Env) : testsT (e :: r) env = (do let ok ← isTrue e env (eval e env); if ok = true then testsT r env else pure false) := by
  unfold testsT
  rw [List.forIn_cons]
  simp only [if_true, bind_assoc, pure_bind]
  congr 1
  funext ok
  cases ok
  · skip; exact tests_false env r
  · rfl

theorem isinst_types {S : Sc} {o : Op} {e : Expr} {es : List Expr} (h : shp S o e = some es) : ∀ t, o = .isinst t → t ∈ types := by
  rintro t rfl
  cases shp_inv h with
  | bin _ _ _ _ h1 => exact nn h1
  | cmp _ _ _ _ h1 _ => exact nn h1
  | inst f p t' x y py pos ho hc => cases ho; exact hc.2.2.2.2.1
  | call _ _ _ _ _ _ h1 _ => exact nn h1
  | neg _ _ h1 => cases h1
  | sl11 _ _ _ _ _ h1 => cases h1
  | sl10 _ _ _ _ h1 => cases h1
  | sl01 _ _ _ _ h1 => cases h1
  | rev _ _ _ _ h1 => cases h1
  | item _ _ _ h1 => cases h1
  | tup _ _ _ h1 _ => cases h1
  | lst _ _ h1 _ => rcases h1 with h1 | h1 <;> cases h1
theorem mshp_isinst {o : Op} {e b : Expr} {es : List Expr} (h : mshp o e = some (b, es)) : ∀ t, o = .isinst t → t ∈ types := by
  rintro t rfl
  refine Exists.elim (mshp_inv h) fun name hx => ?_; obtain ⟨apos, pos, n, T, id, hq0⟩ := hx
  exact nn hq0.2.1

noncomputable def SndE (P : Pg) (Φ : Spec) (Gc : Nat → V) (m : ME) : Prop := ∀ {C : Cx} {S : Sc} {ls : Ls} {σ : View} {s : Shared} {e : Expr} {Q : Post}, Sit C S P Φ Gc → agE P S m e = true → Good C σ ls s → ewp Φ Gc ls m Q σ → TrE C ls (eval e C.env) (RV C Q) σ s
noncomputable def SndT (P : Pg) (Φ : Spec) (Gc : Nat → V) (m : ME) : Prop := ∀ {C : Cx} {S : Sc} {ls : Ls} {σ : View} {s : Shared} {e : Expr} {Q : Bool → View → Prop}, Sit C S P Φ Gc → agE P S m e = true → Good C σ ls s → ewp Φ Gc ls m (fun d σ' => ∃ b, truthV d = some b ∧ Q b σ') σ → TrE C ls (isTrue e C.env (eval e C.env)) (fun b σ' _ => Q b σ') σ s
noncomputable def SndEs (P : Pg) (Φ : Spec) (Gc : Nat → V) (ms : MEs) : Prop := ∀ {C : Cx} {S : Sc} {ls : Ls} {σ : View} {s : Shared} {es : List Expr} {pre : List Value} {xs : List V} {Q : List V → View → Prop}, Sit C S P Φ Gc → agEs P S ms es = true → Good C σ ls s → Reals s.heap (C.D σ) pre xs → ewps Φ Gc ls ms (fun ys σ' => Q (xs ++ ys) σ') σ →
    Ev C ls es (fun vs σ' s' => Good C σ' ls s' ∧ ∃ zs, Reals s'.heap (C.D σ') (pre ++ vs) zs ∧ Q zs σ') σ s
noncomputable def SndAnd (P : Pg) (Φ : Spec) (Gc : Nat → V) (ms : MEs) : Prop := ∀ {C : Cx} {S : Sc} {ls : Ls} {σ : View} {s : Shared} {es : List Expr} {pos : Pos} {Q : Post}, Sit C S P Φ Gc → agEs P S ms es = true → Good C σ ls s → ewpAnd Φ Gc ls ms Q σ → TrE C ls (boolOp pos .And (evalEach es C.env)) (RV C Q) σ s
noncomputable def SndOr (P : Pg) (Φ : Spec) (Gc : Nat → V) (ms : MEs) : Prop := ∀ {C : Cx} {S : Sc} {ls : Ls} {σ : View} {s : Shared} {es : List Expr} {pos : Pos} {Q : Post}, Sit C S P Φ Gc → agEs P S ms es = true → Good C σ ls s → ewpOr Φ Gc ls ms Q σ → TrE C ls (boolOp pos .Or (evalEach es C.env)) (RV C Q) σ s
noncomputable def SndTand (P : Pg) (Φ : Spec) (Gc : Nat → V) (ms : MEs) : Prop := ∀ {C : Cx} {S : Sc} {ls : Ls} {σ : View} {s : Shared} {es : List Expr} {Q : Bool → View → Prop}, Sit C S P Φ Gc → agEs P S ms es = true → Good C σ ls s → ewpAnd Φ Gc ls ms (fun d σ' => ∃ b, truthV d = some b ∧ Q b σ') σ → TrE C ls (allTrue .And es C.env) (fun b σ' _ => Q b σ') σ s
noncomputable def SndTor (P : Pg) (Φ : Spec) (Gc : Nat → V) (ms : MEs) : Prop := ∀ {C : Cx} {S : Sc} {ls : Ls} {σ : View} {s : Shared} {es : List Expr} {Q : Bool → View → Prop}, Sit C S P Φ Gc → agEs P S ms es = true → Good C σ ls s → ewpOr Φ Gc ls ms (fun d σ' => ∃ b, truthV d = some b ∧ Q b σ') σ → TrE C ls (allTrue .Or es C.env) (fun b σ' _ => Q b σ') σ s
noncomputable def SndIfs (P : Pg) (Φ : Spec) (Gc : Nat → V) (ms : MEs) : Prop := ∀ {C : Cx} {S : Sc} {ls : Ls} {σ : View} {s : Shared} {es : List Expr} {Q : Bool → View → Prop}, Sit C S P Φ Gc → agEs P S ms es = true → Good C σ ls s → ewpIfs Φ Gc ls ms Q σ → TrE C ls (testsT es C.env) (fun b σ' _ => Q b σ') σ s
noncomputable def SndI (P : Pg) (Φ : Spec) (Gc : Nat → V) (it : MI) : Prop := ∀ {C : Cx} {S : Sc} {ls : Ls} {σ : View} {s : Shared} {e : Expr} {t : Tg} {tgt : Expr} {ys : List Str} {Q : List V → List V → View → Prop}, Sit C S P Φ Gc → agTg S t tgt = some ys → okI t it = true → agI P S it e = true → Good C σ ls s → ewpI Φ Gc ls it Q σ → SrcAt C ls t tgt e Q σ s
theorem c_e_var {i : Nat}  : SndE P Φ Gc (.var i) := by
    intro C S ls σ s e Q T h G hw
    replace h := ag_var h; obtain ⟨x, p, rfl, h⟩ := h
    simp only [Bool.and_eq_true, beq_iff_eq] at h
    exact tr_var T G h.1 h.2 hw
theorem c_e_lit {d : V}  : SndE P Φ Gc (.lit d) := by
    intro C S ls σ s e Q T h G hw
    replace h := ag_lit h; obtain ⟨c, k, p, rfl, h⟩ := h
    exact tr_lit G h hw
theorem c_e_gcon {k : Nat}  : SndE P Φ Gc (.gcon k) := by
    intro C S ls σ s e Q T h G hw
    replace h := ag_gcon h; obtain ⟨x, p, rfl, h⟩ := h
    simp only [Bool.and_eq_true, beq_iff_eq] at h
    obtain ⟨v, hq0⟩ := T.lnk.gc k _ h.1
    exact load_global T.of h.2 G T.R.ok hq0.1 ⟨σ, G, Step.refl _ _ _, _, hq0.2 _ _, hw⟩
theorem c_e_op {o : Op} {args : MEs} (ih0 : SndEs P Φ Gc args) : SndE P Φ Gc (.op o args) := by
    intro C S ls σ s e Q T h G hw
    replace h := ag_op h; refine Exists.elim h fun es hx => ?_; obtain ⟨hs, h⟩ := hx
    refine shp_sound T.R T.lnk.blt T.of hs G (Ev.mono (ih0 (pre := []) (xs := []) (Q := fun zs σ' => prim o zs Q σ') T h G .nil hw) ?_)
    rintro vs σ' s' ⟨G', zs, rs, hp⟩ u v
    exact prim_sound T.R G' u v rs hp (isinst_types hs)
theorem c_e_meth {o : Op} {b : ME} {args : MEs} (ih0 : SndE P Φ Gc b) (ih1 : SndEs P Φ Gc args) : SndE P Φ Gc (.meth o b args) := by
    intro C S ls σ s e Q T h G hw
    replace h := ag_meth h; refine Exists.elim h fun b' hx => ?_; obtain ⟨es, hs, h⟩ := hx
    simp only [Bool.and_eq_true] at h
    refine mshp_sound T.R hs (TrE.mono (ih0 T h.1 G hw) ?_)
    rintro ov σ₁ s₁ G₁ _ ⟨x, r, hok, hw₁⟩
    refine ⟨x, r, hok, ?_⟩
    refine Ev.mono (ih1 (pre := [ov]) (xs := [x]) (Q := fun zs σ' => prim o zs Q σ') T h.2 G₁ (.cons r .nil) hw₁) ?_
    rintro vs σ' s' ⟨G', zs, rs, hp⟩ u v
    exact prim_sound T.R G' u v rs hp (mshp_isinst hs)
theorem c_e_dict {m : Bool} {ks : List Int} {vs : MEs}  : SndE P Φ Gc (.dict m ks vs) := by
    intro C S ls σ s e Q T h G hw
    replace h := ag_dict h; obtain ⟨p, rfl, rfl, rfl⟩ := h
    exact tr_dict G T.R.ok (And.right (And.right hw))
theorem c_e_and {es : MEs} (ih0 : SndAnd P Φ Gc es) : SndE P Φ Gc (.and es) := by
    intro C S ls σ s e Q T h G hw
    replace h := ag_and h; obtain ⟨vs, pos, rfl, h⟩ := h
    exact ih0 (pos := pos) T h G hw
theorem c_e_or {es : MEs} (ih0 : SndOr P Φ Gc es) : SndE P Φ Gc (.or es) := by
    intro C S ls σ s e Q T h G hw
    replace h := ag_or h; obtain ⟨vs, pos, rfl, h⟩ := h
    exact ih0 (pos := pos) T h G hw
theorem c_e_not {m : ME} (ih0 : SndE P Φ Gc m) : SndE P Φ Gc (.not m) := by
    intro C S ls σ s e Q T h G hw
    replace h := ag_not h; obtain ⟨x, pos, rfl, h⟩ := h
    have e : eval (.UnaryOp .Not x pos) C.env = (do let v ← eval x C.env; standAt pos; holding [v] (unaryOp .Not v)) := rfl
    skip
    refine TrE.bind (TrE.mono (ih0 T h G hw) ?_)
    rintro v σ' s' G' _ ⟨d, r, b, hb, q⟩
    refine TrE.bind (TrE.standAt G' (TrE.holding ?_))
    have e2 : unaryOp .Not v = holding [v] (do let t ← truthy v; pure (.bool (!t))) := rfl
    refine e2 ▸ ?_
    exact TrE.holding (TrE.bind (tr_truthy G' r hb (TrE.pure G' ⟨_, .bool _, q⟩)))
theorem c_e_call {f : Nat} {args : MEs} (ih0 : SndEs P Φ Gc args) : SndE P Φ Gc (.call f args) := by
    intro C S ls σ s e Q T h G hw
    replace h := ag_call h; obtain ⟨g, p, as, pos, rfl, h⟩ := h
    simp only [Bool.and_eq_true, beq_iff_eq, Bool.not_eq_true'] at h
    obtain ⟨⟨⟨⟨h1, h2⟩, h3⟩, h4⟩, h5⟩ := h
    refine Exists.elim (T.lnk.fn f g h1) fun a hx => ?_; obtain ⟨o, fd, hq0⟩ := hx
    refine tr_call h3 (fun Q' hq => load_global T.of h2 G T.R.ok hq0.1 hq) (callWith_fn T h1 h4 G hq0.1 ?_)
    exact ih0 (pre := []) (xs := []) T h5 G .nil hw
theorem tg_some {S : Sc} {x : Tg} {tg : Expr} {scope : Scope} (h : (match agTg S x tg with | some ys => compOk S scope ys | none => false) = true) : ∃ ys, agTg S x tg = some ys ∧ compOk S scope ys = true := by
    cases hq : agTg S x tg with
    | none => rw [hq] at h; exact ff h
    | some ys => rw [hq] at h; exact ⟨ys, rfl, h⟩
theorem comp_q {elt : ME} {x : Tg} {ifs : MEs} (ih1 : SndIfs P Φ Gc ifs) (ih2 : SndE P Φ Gc elt) {C : Cx} {S : Sc} {ls : Ls} (T : Sit C S P Φ Gc) {scope : Scope} {fs : List Expr} {el : Expr} {fin : List V → View → List V → View → Prop} (hk : C.env.scope.kind = .function) (h5 : agEs P (S.comp scope) ifs fs = true) (h6 : agE P (S.comp scope) elt el = true) (xs us : List V) (σ₁ : View)
    (h : xs.length ≤ big ∧ ∃ I : Nat → List V → View → Prop, I 0 [] (lockV σ₁ us) ∧
      (∀ k v acc σ₂, xs[k]? = some v → I k acc σ₂ → ewpIfs Φ Gc (x.up v ls) ifs (fun b σ₃ => if b then ewp Φ Gc (x.up v ls) elt (fun d σ₄ => I (k + 1) (acc ++ [d]) σ₄) σ₃ else I (k + 1) acc σ₃) σ₂) ∧
      (∀ acc σ₂, I xs.length acc σ₂ → fin us σ₁ acc σ₂)) : CompQ C ls scope x el fs fin xs us σ₁ := by
    obtain ⟨hbig, J, hq0⟩ := h
    refine .mk J hbig hq0.1 (fun cl L a wr k v acc σ₂ s₂ G₂ hv hJ₂ => ?_) hq0.2.2
    have T' : Sit (C.comp scope cl L a wr) (S.comp scope) P Φ Gc := T.comp hk
    refine TrE.mono (ih1 T' h5 G₂ (hq0.2.1 k v acc σ₂ hv hJ₂)) fun ok σ₃ s₃ G₃ _ h₃ => ?_
    cases ok with
    | false => exact h₃
    | true => exact ih2 T' h6 G₃ h₃
theorem c_e_comp {m : Bool} {elt : ME} {x : Tg} {it : MI} {ifs : MEs} (ih0 : SndI P Φ Gc it) (ih1 : SndIfs P Φ Gc ifs) (ih2 : SndE P Φ Gc elt) : SndE P Φ Gc (.comp m elt x it ifs) := by
    intro C S ls σ s e Q T h G hw
    replace h := ag_comp h; obtain ⟨el, tg, iter, fs, scope, pos, rfl, h⟩ := h
    simp only [Bool.and_eq_true] at h
    obtain ⟨⟨⟨⟨⟨h1, h2⟩, h3⟩, h4⟩, h5⟩, h6⟩ := h
    refine Exists.elim (tg_some h1) ?_; rintro ys hq0
    exact comp_value (m := m) T G hq0.2 hq0.1 h3 ((ih0 T hq0.1 h2 h4 G hw).mono (comp_q ih1 ih2 T G.fr.kind h5 h6))
theorem c_e_frz {m : ME} (ih0 : SndE P Φ Gc m) : SndE P Φ Gc (.frz m) := by
    intro C S ls σ s e Q T h G hw
    have h : (agE P S m e && tplain e) = true := h
    simp only [Bool.and_eq_true] at h
    refine wpAny_mono (ih0 T h.1 G hw) (?_) fun _ _ x => x
    rintro v s' ⟨σ', G', S', d, r, a, ha, hq⟩
    subst ha
    obtain rfl := r.ref_i
    rcases hq with ⟨xs, e, q⟩ | ⟨es, e, q⟩
    · exact ⟨σ'.del a, G'.del, S'.trans (Step.del _ _ _ _), .lst xs, G'.freezeL e, q⟩
    · exact ⟨σ'.del a, G'.del, S'.trans (Step.del _ _ _ _), .dct es, G'.freezeD T.R.ok e, q⟩
theorem c_t_not {m : ME} (ih0 : SndT P Φ Gc m) : SndT P Φ Gc (.not m) := by
    intro C S ls σ s e Q T h G hw
    replace h := ag_not h; obtain ⟨x, pos, rfl, h⟩ := h
    have e : isTrue (.UnaryOp .Not x pos) C.env (eval (.UnaryOp .Not x pos) C.env) = (do let t ← isTrue x C.env (eval x C.env); pure (!t)) := rfl
    skip
    refine TrE.bind (TrE.mono (ih0 (Q := fun b σ' => Q (!b) σ') T h G ?_) fun b σ' s' G' _ q => TrE.pure G' q)
    refine ewp_mono T.lnk.mono m hw ?_
    rintro d σ' ⟨b, hb, b', hb', q⟩
    refine ⟨b, hb, ?_⟩
    simp only [truthV, Option.some.injEq] at hb'
    exact hb' ▸ q
theorem c_t_and {es : MEs} (ih0 : SndTand P Φ Gc es) : SndT P Φ Gc (.and es) := by
    intro C S ls σ s e Q T h G hw
    replace h := ag_and h; obtain ⟨vs, pos, rfl, h⟩ := h
    exact ih0 T h G hw
theorem c_t_or {es : MEs} (ih0 : SndTor P Φ Gc es) : SndT P Φ Gc (.or es) := by
    intro C S ls σ s e Q T h G hw
    replace h := ag_or h; obtain ⟨vs, pos, rfl, h⟩ := h
    exact ih0 T h G hw
theorem c_t_of {m : ME} (ih0 : SndE P Φ Gc m) (hp : ∀ {S : Sc} {e : Expr}, agE P S m e = true → tplain e = true) : SndT P Φ Gc m := by
    intro C S ls σ s e Q T h G hw
    refine tr_test_plain (hp h) (TrE.mono (ih0 T h G hw) fun v σ' s' _ _ x => ?_)
    obtain ⟨d, r, b, hq0⟩ := x
    exact ⟨d, b, r, hq0.1, hq0.2⟩
theorem c_t_var {i : Nat} (ih0 : SndE P Φ Gc (.var i)) : SndT P Φ Gc (.var i) := c_t_of ih0 fun h => by
    refine Exists.elim (ag_var h) fun x hx => ?_; obtain ⟨p, rfl, _⟩ := hx; rfl
theorem c_t_lit {d : V} (ih0 : SndE P Φ Gc (.lit d)) : SndT P Φ Gc (.lit d) := c_t_of ih0 fun h => by
    refine Exists.elim (ag_lit h) fun x hx => ?_; obtain ⟨k, p, rfl, _⟩ := hx; rfl
theorem c_t_gcon {k : Nat} (ih0 : SndE P Φ Gc (.gcon k)) : SndT P Φ Gc (.gcon k) := c_t_of ih0 fun h => by
    refine Exists.elim (ag_gcon h) fun x hx => ?_; obtain ⟨p, rfl, _⟩ := hx; rfl
theorem c_t_op {o : Op} {args : MEs} (ih0 : SndE P Φ Gc (.op o args)) : SndT P Φ Gc (.op o args) := c_t_of ih0 fun h => by
    refine Exists.elim (ag_op h) ?_; rintro es hq0; exact shp_tplain hq0.1
theorem c_t_meth {o : Op} {b : ME} {args : MEs} (ih0 : SndE P Φ Gc (.meth o b args)) : SndT P Φ Gc (.meth o b args) := c_t_of ih0 fun h => by
    refine Exists.elim (ag_meth h) fun b' hx => ?_; obtain ⟨es, hq0⟩ := hx; exact mshp_tplain hq0.1
theorem c_t_dict {m : Bool} {ks : List Int} {vs : MEs} (ih0 : SndE P Φ Gc (.dict m ks vs)) : SndT P Φ Gc (.dict m ks vs) := c_t_of ih0 fun h => by
    refine Exists.elim (ag_dict h) fun p hx => ?_; obtain ⟨rfl, _⟩ := hx; rfl
theorem c_t_call {f : Nat} {args : MEs} (ih0 : SndE P Φ Gc (.call f args)) : SndT P Φ Gc (.call f args) := c_t_of ih0 fun h => by
    refine Exists.elim (ag_call h) fun g hx => ?_; obtain ⟨p, as, pos, rfl, _⟩ := hx; rfl
theorem c_t_comp {m : Bool} {elt : ME} {x : Tg} {it : MI} {ifs : MEs} (ih0 : SndE P Φ Gc (.comp m elt x it ifs)) : SndT P Φ Gc (.comp m elt x it ifs) := c_t_of ih0 fun h => by
    refine Exists.elim (ag_comp h) fun el hx => ?_; obtain ⟨tg, iter, fs, scope, pos, rfl, _⟩ := hx; rfl
theorem c_t_frz {m : ME} (ih0 : SndE P Φ Gc (.frz m)) : SndT P Φ Gc (.frz m) := c_t_of ih0 fun h => (Bool.and_eq_true_iff.mp h).2
theorem okI_one {S : Sc} {it : MI} {t : Tg} {tgt : Expr} {ys : List Str} (hy : agTg S t tgt = some ys) (h : okI t it = true) (hn : ∀ ms, it ≠ .enum ms) : ∃ i y p, t = .one i ∧ tgt = .Name y p := by
    rcases agTg_inv hy with ⟨i, y, p, rfl, rfl, _⟩ | ⟨i, j, y, z, p, p', n1, pt, rfl, rfl, _⟩
    · exact ⟨i, y, p, rfl, rfl⟩
    · cases it with
      | enum ms => exact absurd rfl (hn ms)
      | seq _ => exact ff h
      | range _ => exact ff h
theorem c_i_seq {m : ME} (ih0 : SndE P Φ Gc m) : SndI P Φ Gc (.seq m) := by
    intro C S ls σ s e t tgt ys Q T hy hk h G hw
    refine Exists.elim (okI_one hy hk (fun _ h => (by cases h))) fun i hx => ?_; obtain ⟨y, p, rfl, rfl⟩ := hx
    have h : agE P S m e = true := h
    refine wpAny_mono (ih0 T h G hw) (?_) fun _ _ x => x
    rintro v s₁ ⟨σ₁, G₁, S₁, d, rd, xs, hx, q⟩
    refine ⟨σ₁, s₁, [d], xs, G₁, S₁, fun K hK => ?_, q⟩
    exact it_value T.R G₁ rd hx fun o fp P St I st => hK _ _ _ s₁.toks fp P St I st (fun b o e => Heap.get?_push_of_some _ e) (by rw [Heap.size_push]; solve_by_elim (maxDepth := 2) [Nat.le_of_lt, Nat.le_trans, Nat.lt_of_lt_of_le, Nat.lt_of_le_of_lt, Nat.le_succ_of_le, Nat.lt_succ_of_le, Nat.le_of_succ_le, Nat.le_of_lt_succ, Nat.not_lt.mp, Nat.not_le.mp, Nat.le_add_right, Nat.le_add_left, Nat.sub_le])
theorem c_i_call {n : String} {k : Nat} {ms : MEs} (ih0 : SndEs P Φ Gc ms) {C : Cx} {S : Sc} {ls : Ls} {σ : View} {s : Shared} {e : Expr} {t : Tg} {tgt : Expr} {Q : List V → List V → View → Prop} (hn : n ∈ blts) (hT : ∃ ty, bval n = .type ty ∧ ∀ vs, srcT k vs = call (.type ty) vs)
    (src : ∀ {σ : View} {s : Shared} {vs : List Value} {us xs : List V}, Good C σ ls s → Reals s.heap (C.D σ) vs us → itXs k σ us = some xs → wpAny (model C.W.prog C.W.w) C.A (srcT k vs) (fun r s' => Src C tgt (rpOf t) s σ us xs r s') (fun _ _ => False) s)
    (T : Sit C S P Φ Gc) (h : (match iterArgs n S e with | some es => agEs P S ms es | none => false) = true) (G : Good C σ ls s) (hw : ewps Φ Gc ls ms (fun us σ' => itWp k us Q σ') σ) : SrcAt C ls t tgt e Q σ s := by
    replace h := ag_iter h; obtain ⟨f, p, es, pos, rfl, hc, h⟩ := h
    obtain ⟨rfl, hq1⟩ := hc
    refine Exists.elim hT ?_; rintro ty hq0
    have e : eval (.Call (.Name (Str.ofString n) p) es [] pos) C.env = (do callWith pos (← eval (.Name (Str.ofString n) p) C.env) [] (backTo pos (starEach es C.env)) (backToKw pos (keywordEach [] C.env))) := rfl
    unfold SrcAt
    simp only [e, starEach_noStar hq1.2.1, backTo_noStar]
    refine wpAny_bind (load_blt T.of hq1.1 hn G T.R.ok T.lnk.blt ?_)
    refine hq0.1 ▸ ?_
    refine callWith_argsW (.inr ⟨_, rfl⟩) hq1.2.2 G (ih0 (pre := []) (xs := []) (Q := fun us σ' => itWp k us Q σ') T h G .nil hw) ?_
    rintro vs σ₁ s₁ G₁ S₁ ⟨_, us, rs, xs, hx, q⟩
    rw [← hq0.2]
    exact wpAny_mono (src G₁ rs hx) (fun r s' src => ⟨σ₁, s₁, us, xs, G₁, S₁, src, q⟩) fun _ _ x => x
theorem c_i_range {ms : MEs} (ih0 : SndEs P Φ Gc ms) : SndI P Φ Gc (.range ms) := by
    intro C S ls σ s e t tgt ys Q T hy hk h G hw
    refine Exists.elim (okI_one hy hk (fun _ h => (by cases h))) fun i hx => ?_; obtain ⟨y, p, rfl, rfl⟩ := hx
    exact c_i_call (n := "range") (k := 1) ih0 (by decide) ⟨_, rfl, fun _ => rfl⟩ (fun G rs hx => it_src T.R G rs hx) T h G hw
theorem c_i_enum {ms : MEs} (ih0 : SndEs P Φ Gc ms) : SndI P Φ Gc (.enum ms) := by
    intro C S ls σ s e t tgt ys Q T hy hk h G hw
    rcases agTg_inv hy with ⟨i, y, p, rfl, rfl, _⟩ | ⟨i, j, y, z, p, p', n1, pt, rfl, rfl, _⟩
    · exact ff hk
    · exact c_i_call (n := "enumerate") (k := 2) ih0 (by decide) ⟨_, rfl, fun _ => rfl⟩ (fun G rs hx => it_enum T.R G rs hx) T h G hw
theorem c_es_nil   : SndEs P Φ Gc .nil := by
    intro C S ls σ s es pre xs Q T h G rs hw
    obtain rfl := ag_nil h
    exact ⟨G, xs, by rw [List.append_nil]; exact rs, List.append_nil xs ▸ hw⟩
theorem c_es_cons {m : ME} {ms : MEs} (ih0 : SndE P Φ Gc m) (ih1 : SndEs P Φ Gc ms) : SndEs P Φ Gc (.cons m ms) := by
    intro C S ls σ s es pre xs Q T h G rs hw
    replace h := ag_cons h; obtain ⟨e, r, rfl, h⟩ := h
    simp only [Bool.and_eq_true] at h
    refine TrE.mono (ih0 T h.1 G hw) ?_
    rintro v σ' s' G' S' ⟨d, rd, hw'⟩
    refine Ev.mono (ih1 (pre := pre ++ [v]) (xs := xs ++ [d]) (Q := Q) T h.2 G' ((rs.step G S').append (.cons rd .nil)) ?_) fun vs σ'' s'' hx => by obtain ⟨G'', zs, rz, q⟩ := hx; exact ⟨G'', zs, by rw [List.append_assoc] at rz; exact rz, q⟩
    have e : (fun ys σ' => Q (xs ++ [d] ++ ys) σ') = fun ys σ' => Q (xs ++ d :: ys) σ' := by funext ys σ'; rw [List.append_assoc]; rfl
    exact e ▸ hw'
theorem c_and_nil   : SndAnd P Φ Gc .nil := by
    intro C S ls σ s es pos Q T h G hw
    exact hw.elim
theorem c_and_one {m : ME} (ih0 : SndE P Φ Gc m) : SndAnd P Φ Gc (.cons m .nil) := by
    intro C S ls σ s es pos Q T h G hw
    replace h := ag_cons h; obtain ⟨e, r, rfl, h⟩ := h
    simp only [Bool.and_eq_true] at h
    skip
    obtain rfl := ag_nil h.2
    exact ih0 T h.1 G hw
theorem c_and_more {m m2 : ME} {ms : MEs} (ih0 : SndE P Φ Gc m) (ih1 : SndAnd P Φ Gc (.cons m2 ms)) : SndAnd P Φ Gc (.cons m (.cons m2 ms)) := by
    intro C S ls σ s es pos Q T h G hw
    replace h := ag_cons h; obtain ⟨e, r, rfl, h⟩ := h
    simp only [Bool.and_eq_true] at h
    obtain ⟨h1, h2⟩ := h
    cases r with
    | nil => exact ff h2
    | cons e2 r =>
      have e : boolOp pos .And (evalEach (e :: e2 :: r) C.env) = (do
          let v ← eval e C.env
          standAt pos
          let t ← holding [v] (truthy v)
          match BoolOp.And, t with
          | .And, false | .Or, true => pure v
          | _, _ => boolOp pos .And (evalEach (e2 :: r) C.env)) := rfl
      skip
      refine TrE.bind (TrE.mono (ih0 T h1 G hw) ?_)
      rintro v σ' s' G' _ ⟨d, rd, b, hb, hw'⟩
      refine TrE.bind (TrE.standAt G' (TrE.bind (TrE.holding (tr_truthy G' rd hb ?_))))
      cases b with
      | false => exact TrE.pure G' ⟨d, rd, hw'⟩
      | true => exact ih1 T h2 G' hw'
theorem c_or_nil   : SndOr P Φ Gc .nil := by
    intro C S ls σ s es pos Q T h G hw
    exact hw.elim
theorem c_or_one {m : ME} (ih0 : SndE P Φ Gc m) : SndOr P Φ Gc (.cons m .nil) := by
    intro C S ls σ s es pos Q T h G hw
    replace h := ag_cons h; obtain ⟨e, r, rfl, h⟩ := h
    simp only [Bool.and_eq_true] at h
    skip
    obtain rfl := ag_nil h.2
    exact ih0 T h.1 G hw
theorem c_or_more {m m2 : ME} {ms : MEs} (ih0 : SndE P Φ Gc m) (ih1 : SndOr P Φ Gc (.cons m2 ms)) : SndOr P Φ Gc (.cons m (.cons m2 ms)) := by
    intro C S ls σ s es pos Q T h G hw
    replace h := ag_cons h; obtain ⟨e, r, rfl, h⟩ := h
    simp only [Bool.and_eq_true] at h
    obtain ⟨h1, h2⟩ := h
    cases r with
    | nil => exact ff h2
    | cons e2 r =>
      have e : boolOp pos .Or (evalEach (e :: e2 :: r) C.env) = (do
          let v ← eval e C.env
          standAt pos
          let t ← holding [v] (truthy v)
          match BoolOp.Or, t with
          | .And, false | .Or, true => pure v
          | _, _ => boolOp pos .Or (evalEach (e2 :: r) C.env)) := rfl
      skip
      refine TrE.bind (TrE.mono (ih0 T h1 G hw) ?_)
      rintro v σ' s' G' _ ⟨d, rd, b, hb, hw'⟩
      refine TrE.bind (TrE.standAt G' (TrE.bind (TrE.holding (tr_truthy G' rd hb ?_))))
      cases b with
      | true => exact TrE.pure G' ⟨d, rd, hw'⟩
      | false => exact ih1 T h2 G' hw'
theorem c_tand_nil   : SndTand P Φ Gc .nil := by
    intro C S ls σ s es Q T h G hw
    exact hw.elim
theorem c_tand_one {m : ME} (ih0 : SndT P Φ Gc m) : SndTand P Φ Gc (.cons m .nil) := by
    intro C S ls σ s es Q T h G hw
    replace h := ag_cons h; obtain ⟨e, r, rfl, h⟩ := h
    simp only [Bool.and_eq_true] at h
    skip
    obtain rfl := ag_nil h.2
    have e : allTrue .And [e] C.env = (do
        match BoolOp.And, ← isTrue e C.env (eval e C.env) with
        | .And, false => pure false
        | .Or, true => pure true
        | _, _ => allTrue .And [] C.env) := rfl
    skip
    refine TrE.bind (TrE.mono (ih0 T h.1 G hw) fun b σ' s' G' _ q => ?_)
    cases b with
    | false => exact TrE.pure G' q
    | true => exact TrE.pure G' q
theorem c_tand_more {m m2 : ME} {ms : MEs} (ih0 : SndT P Φ Gc m) (ih1 : SndTand P Φ Gc (.cons m2 ms)) : SndTand P Φ Gc (.cons m (.cons m2 ms)) := by
    intro C S ls σ s es Q T h G hw
    replace h := ag_cons h; obtain ⟨e, r, rfl, h⟩ := h
    simp only [Bool.and_eq_true] at h
    skip
    have e : allTrue .And (e :: r) C.env = (do
        match BoolOp.And, ← isTrue e C.env (eval e C.env) with
        | .And, false => pure false
        | .Or, true => pure true
        | _, _ => allTrue .And r C.env) := rfl
    skip
    refine TrE.bind (TrE.mono (ih0 (Q := fun b σ' => if b = true then ewpAnd Φ Gc ls (.cons m2 ms) (fun d σ' => ∃ b, truthV d = some b ∧ Q b σ') σ' else Q b σ') T h.1 G (ewp_mono T.lnk.mono m hw fun d σ' ⟨b, hb, hw'⟩ => ⟨b, hb, ?_⟩)) fun b σ' s' G' _ q => ?_)
    · cases b with
      | false => refine Exists.elim hw' ?_; rintro b' hq0; cases Eq.trans (Eq.symm hb) hq0.1; exact hq0.2
      | true => exact hw'
    · cases b with
      | false => exact TrE.pure G' q
      | true => exact ih1 T h.2 G' q
theorem c_tor_nil   : SndTor P Φ Gc .nil := by
    intro C S ls σ s es Q T h G hw
    exact hw.elim
theorem c_tor_one {m : ME} (ih0 : SndT P Φ Gc m) : SndTor P Φ Gc (.cons m .nil) := by
    intro C S ls σ s es Q T h G hw
    replace h := ag_cons h; obtain ⟨e, r, rfl, h⟩ := h
    simp only [Bool.and_eq_true] at h
    skip
    obtain rfl := ag_nil h.2
    have e : allTrue .Or [e] C.env = (do
        match BoolOp.Or, ← isTrue e C.env (eval e C.env) with
        | .And, false => pure false
        | .Or, true => pure true
        | _, _ => allTrue .Or [] C.env) := rfl
    skip
    refine TrE.bind (TrE.mono (ih0 T h.1 G hw) fun b σ' s' G' _ q => ?_)
    cases b with
    | false => exact TrE.pure G' q
    | true => exact TrE.pure G' q
theorem c_tor_more {m m2 : ME} {ms : MEs} (ih0 : SndT P Φ Gc m) (ih1 : SndTor P Φ Gc (.cons m2 ms)) : SndTor P Φ Gc (.cons m (.cons m2 ms)) := by
    intro C S ls σ s es Q T h G hw
    replace h := ag_cons h; obtain ⟨e, r, rfl, h⟩ := h
    simp only [Bool.and_eq_true] at h
    skip
    have e : allTrue .Or (e :: r) C.env = (do
        match BoolOp.Or, ← isTrue e C.env (eval e C.env) with
        | .And, false => pure false
        | .Or, true => pure true
        | _, _ => allTrue .Or r C.env) := rfl
    skip
    refine TrE.bind (TrE.mono (ih0 (Q := fun b σ' => if b = true then Q b σ' else ewpOr Φ Gc ls (.cons m2 ms) (fun d σ' => ∃ b, truthV d = some b ∧ Q b σ') σ') T h.1 G (ewp_mono T.lnk.mono m hw fun d σ' ⟨b, hb, hw'⟩ => ⟨b, hb, ?_⟩)) fun b σ' s' G' _ q => ?_)
    · cases b with
      | true => refine Exists.elim hw' ?_; rintro b' hq0; cases Eq.trans (Eq.symm hb) hq0.1; exact hq0.2
      | false => exact hw'
    · cases b with
      | true => exact TrE.pure G' q
      | false => exact ih1 T h.2 G' q
theorem c_ifs_nil   : SndIfs P Φ Gc .nil := by
    intro C S ls σ s es Q T h G hw
    obtain rfl := ag_nil h
    exact TrE.pure G hw
theorem c_ifs_cons {m : ME} {ms : MEs} (ih0 : SndT P Φ Gc m) (ih1 : SndIfs P Φ Gc ms) : SndIfs P Φ Gc (.cons m ms) := by
    intro C S ls σ s es Q T h G hw
    replace h := ag_cons h; obtain ⟨e, r, rfl, h⟩ := h
    simp only [Bool.and_eq_true] at h
    have e : testsT (e :: r) C.env = (do let ok ← isTrue e C.env (eval e C.env); if ok = true then testsT r C.env else pure false) := testsT_cons ..
    refine e ▸ ?_
    refine TrE.bind (TrE.mono (ih0 T h.1 G hw) fun b σ' s' G' _ q => ?_)
    cases b with
    | true => exact ih1 T h.2 G' q
    | false => exact TrE.pure G' q
mutual
theorem snd_et : ∀ m : ME, SndE P Φ Gc m ∧ SndT P Φ Gc m
  | .var i => have h : SndE P Φ Gc (.var i) := c_e_var; ⟨h, c_t_var h⟩
  | .lit d => have h : SndE P Φ Gc (.lit d) := c_e_lit; ⟨h, c_t_lit h⟩
  | .gcon k => have h : SndE P Φ Gc (.gcon k) := c_e_gcon; ⟨h, c_t_gcon h⟩
  | .op o args => have h : SndE P Φ Gc (.op o args) := c_e_op ((snd_ess args).1); ⟨h, c_t_op h⟩
  | .meth o b args => have h : SndE P Φ Gc (.meth o b args) := c_e_meth ((snd_et b).1) ((snd_ess args).1); ⟨h, c_t_meth h⟩
  | .dict m ks vs => have h : SndE P Φ Gc (.dict m ks vs) := c_e_dict; ⟨h, c_t_dict h⟩
  | .and es => have h : SndE P Φ Gc (.and es) := c_e_and ((snd_ess es).2.1); ⟨h, c_t_and ((snd_ess es).2.2.2.1)⟩
  | .or es => have h : SndE P Φ Gc (.or es) := c_e_or ((snd_ess es).2.2.1); ⟨h, c_t_or ((snd_ess es).2.2.2.2.1)⟩
  | .not m => have h : SndE P Φ Gc (.not m) := c_e_not ((snd_et m).1); ⟨h, c_t_not ((snd_et m).2)⟩
  | .call f args => have h : SndE P Φ Gc (.call f args) := c_e_call ((snd_ess args).1); ⟨h, c_t_call h⟩
  | .comp m elt x it ifs => have h : SndE P Φ Gc (.comp m elt x it ifs) := c_e_comp (snd_ii it) ((snd_ess ifs).2.2.2.2.2) ((snd_et elt).1); ⟨h, c_t_comp h⟩
  | .frz m => have h : SndE P Φ Gc (.frz m) := c_e_frz ((snd_et m).1); ⟨h, c_t_frz h⟩
theorem snd_ess : ∀ ms : MEs, SndEs P Φ Gc ms ∧ SndAnd P Φ Gc ms ∧ SndOr P Φ Gc ms ∧ SndTand P Φ Gc ms ∧ SndTor P Φ Gc ms ∧ SndIfs P Φ Gc ms
  | .nil => ⟨c_es_nil, c_and_nil, c_or_nil, c_tand_nil, c_tor_nil, c_ifs_nil⟩
  | .cons m .nil => have a := snd_et m; have b := snd_ess .nil; ⟨c_es_cons a.1 b.1, c_and_one a.1, c_or_one a.1, c_tand_one a.2, c_tor_one a.2, c_ifs_cons a.2 b.2.2.2.2.2⟩
  | .cons m (.cons m2 ms) => have a := snd_et m; have b := snd_ess (.cons m2 ms); ⟨c_es_cons a.1 b.1, c_and_more a.1 b.2.1, c_or_more a.1 b.2.2.1, c_tand_more a.2 b.2.2.2.1, c_tor_more a.2 b.2.2.2.2.1, c_ifs_cons a.2 b.2.2.2.2.2⟩
theorem snd_ii : ∀ it : MI, SndI P Φ Gc it
  | .seq m => c_i_seq ((snd_et m).1)
  | .range ms => c_i_range ((snd_ess ms).1)
  | .enum ms => c_i_enum ((snd_ess ms).1)
end
theorem snd_e : ∀ (m : ME) {C : Cx} {S : Sc} {ls : Ls} {σ : View} {s : Shared} {e : Expr} {Q : Post}, Sit C S P Φ Gc → agE P S m e = true → Good C σ ls s → ewp Φ Gc ls m Q σ → TrE C ls (eval e C.env) (RV C Q) σ s := fun x => (snd_et x).1
theorem snd_t : ∀ (m : ME) {C : Cx} {S : Sc} {ls : Ls} {σ : View} {s : Shared} {e : Expr} {Q : Bool → View → Prop}, Sit C S P Φ Gc → agE P S m e = true → Good C σ ls s → ewp Φ Gc ls m (fun d σ' => ∃ b, truthV d = some b ∧ Q b σ') σ → TrE C ls (isTrue e C.env (eval e C.env)) (fun b σ' _ => Q b σ') σ s := fun x => (snd_et x).2
theorem snd_i (it : MI) : SndI P Φ Gc it := snd_ii it
end
end Mine
end

section

open PySem PyProof.Rows
set_option linter.unusedVariables false
set_option maxHeartbeats 4000000
namespace Mine

noncomputable def storable (S : Sc) (x : Str) : Bool := S.names.lookup x == some .local || S.names.lookup x == some .cell
noncomputable def isComp : Expr → Bool
  | .ListComp _ _ _ _ => true
  | .SetComp _ _ _ _ => true
  | .DictComp _ _ _ _ _ => true
  | _ => false
noncomputable def swaps (S : Sc) (t : Str) (pt : Pos) : Expr → Bool
  | .ListComp _ _ scope p => S.names.lookup t == some .local && pt.line == p.line && !(scope.names.any fun (n, k) => n == t && (k == .local || k == .cell))
  | _ => false
noncomputable def isCompM : ME → Bool
  | .comp _ _ _ _ _ => true
  | _ => false

mutual
noncomputable def agS (P : Pg) (S : Sc) : MS → Stmt → Bool
  | .assign i m, st => match st with
    | .Assign [.Name x pt] e _ => S.vars[i]? == some x && storable S x && (isComp e == isCompM m) && agE P S m e
    | _ => false
  | .setSub o k m, st => match st with
    | .Assign [.Subscript b i _] e _ => !isComp e && agE P S o b && agE P S k i && agE P S m e
    | _ => false
  | .expr m, st => match st with
    | .Expr e _ => !isComp e && agE P S m e
    | _ => false
  | .ite t a b, st => match st with
    | .If e x y _ => agE P S t e && agSs P S a x && agSs P S b y
    | _ => false
  | .loop t b, st => match st with
    | .While e x [] _ => agE P S t e && agSs P S b x
    | _ => false
  | .for1 i it b, st => match st with
    | .For tg e body [] _ => (match agTg S i tg with | some ys => ys.all (storable S) | none => false) && okI i it && notSet e && agI P S it e && agSs P S b body
    | _ => false
  | .ret m, st => match st with
    | .Return (some e) _ => agE P S m e
    | _ => false
  | .freeze _, _ => false
noncomputable def agSs (P : Pg) (S : Sc) : MSs → List Stmt → Bool
  | .nil, ss => ss.isEmpty
  | .cons m r, ss => match m with
    | .freeze i => agSs P S r ss
    | m => match ss with
      | st :: rest => agS P S m st && agSs P S r rest
      | [] => false
end

structure SitS (C : Cx) (S : Sc) (P : Pg) (Φ : Spec) (Gc : Nat → V) : Prop extends Sit C S P Φ Gc where
  oc : ∀ x c, C.env.cells.lookup x = some c → C.own c

section
variable {P : Pg} {Φ : Spec} {Gc : Nat → V} {C : Cx} {S : Sc} {ls : Ls} {σ : View} {s : Shared}

theorem SitS.more (T : SitS C S P Φ Gc) {wr : List Addr} : SitS (C.more wr) S P Φ Gc := ⟨T.toSit.more, T.oc⟩

theorem storable_kind (hS : S.Of C) (T : ∀ x c, C.env.cells.lookup x = some c → C.own c) {x : Str} (h : storable S x = true) : C.env.kindOf x = some .local ∨ (C.env.kindOf x = some .cell ∧ ∀ c, C.env.cells.lookup x = some c → C.own c) := by
  unfold storable at h
  simp only [Bool.or_eq_true, beq_iff_eq] at h
  rw [kindOf_eq hS]
  exact h.imp id fun h => ⟨h, T x⟩
/-- the targets of a loop -/
theorem for_asg (T : SitS C S P Φ Gc) {t : Tg} {tgt : Expr} {ys : List Str} (hy : agTg S t tgt = some ys) (hs : ys.all (storable S) = true) {wr : List Addr} : Asg (C.more wr) tgt (rpOf t) t.up := by
  have hl : ∀ y ∈ ys, Stor (C.more wr) y := fun y hm => storable_kind T.more.of T.more.oc (List.all_eq_true.mp hs y hm)
  have hv : (C.more wr).vars = S.vars := T.of.vars
  rcases agTg_inv hy with ⟨i, y, p, rfl, rfl, rfl, h1⟩ | ⟨i, j, y, z, p, p', n1, pt, rfl, rfl, rfl, h1, h2⟩
  · exact asg1 ((hv ▸ h1)) (hl y (.head _))
  · exact asg2 T.R.hh ((hv ▸ h1)) (hl y (.head _)) ((hv ▸ h2)) (hl z (.tail _ (.head _)))
theorem fn_interactive (hk : C.env.scope.kind = .function) : interactive C.env = false := by dsimp only [interactive]; exact hk ▸ rfl
theorem swaps_plain {e : Expr} {t : Option Expr} {line : Nat} {env : Env} (h : isComp e = false) : swapsWith e t line env = pure false := by
  skip
  cases e <;> first | rfl | exact ff2 h

theorem tr_assign (T : SitS C S P Φ Gc) (G : Good C σ ls s) {i : Nat} {x : Str} {pt pos : Pos} {e : Expr} {Q : View → Ls → Prop} {R : Post} (hi : S.vars[i]? = some x) (hs : storable S x = true) (hsw : swapsWith e (some (.Name x pt)) pos.line C.env = pure false)
    (h : TrE C ls (eval e C.env) (RV C fun d σ' => Q σ' (ls.set i d)) σ s) : TrS C (exec (.Assign [.Name x pt] e pos) C.env) Q R σ s := by
  refine wpAny_Assign_Name (wpAny_mono h ?_ fun _ _ x => x) hsw
  rintro v s₁ ⟨σ₁, G₁, S₁, d, r, q⟩
  exact store G₁ ((T.of.vars ▸ hi)) (storable_kind T.of T.oc hs) r fun s₂ G₂ S₂ => ⟨σ₁, S₁.trans S₂, ls.set i d, G₂, q⟩

theorem compM_inv {m : ME} (h : isCompM m = true) : ∃ mm elt xi it ifs, m = .comp mm elt xi it ifs := by
  cases m <;> first | exact ⟨_, _, _, _, _, rfl⟩ | exact ff h
theorem as_assign {i : Nat} {m : ME} {st : Stmt} (h : agS P S (.assign i m) st = true) : ∃ x pt e pos, st = .Assign [.Name x pt] e pos ∧ (S.vars[i]? == some x && storable S x && (isComp e == isCompM m) && agE P S m e) = true := by
  cases st with
  | Assign ts e pos =>
    cases ts with
    | nil => exact ff h
    | cons t ts =>
      cases t <;> first
        | exact ff h
        | (cases ts <;> first | exact ⟨_, _, _, _, rfl, h⟩ | exact ff h)
  | _ => exact ff h
theorem as_setSub {o k m : ME} {st : Stmt} (h : agS P S (.setSub o k m) st = true) : ∃ b i p e pos, st = .Assign [.Subscript b i p] e pos ∧ (!isComp e && agE P S o b && agE P S k i && agE P S m e) = true := by
  cases st with
  | Assign ts e pos =>
    cases ts with
    | nil => exact ff h
    | cons t ts =>
      cases t <;> first
        | exact ff h
        | (cases ts <;> first | exact ⟨_, _, _, _, _, rfl, h⟩ | exact ff h)
  | _ => exact ff h
theorem as_expr {m : ME} {st : Stmt} (h : agS P S (.expr m) st = true) : ∃ e pos, st = .Expr e pos ∧ (!isComp e && agE P S m e) = true := by
  cases st <;> first | exact ⟨_, _, rfl, h⟩ | exact ff h
theorem as_ite {t : ME} {a b : MSs} {st : Stmt} (h : agS P S (.ite t a b) st = true) : ∃ e x y pos, st = .If e x y pos ∧ (agE P S t e && agSs P S a x && agSs P S b y) = true := by
  cases st <;> first | exact ⟨_, _, _, _, rfl, h⟩ | exact ff h
theorem as_loop {t : ME} {b : MSs} {st : Stmt} (h : agS P S (.loop t b) st = true) : ∃ e x pos, st = .While e x [] pos ∧ (agE P S t e && agSs P S b x) = true := by
  cases st with
  | While e x z pos => cases z <;> first | exact ⟨_, _, _, rfl, h⟩ | exact ff h
  | _ => exact ff h
theorem as_for {i : Tg} {it : MI} {b : MSs} {st : Stmt} (h : agS P S (.for1 i it b) st = true) : ∃ tg e body pos, st = .For tg e body [] pos ∧ ((match agTg S i tg with | some ys => ys.all (storable S) | none => false) && okI i it && notSet e && agI P S it e && agSs P S b body) = true := by
  cases st with
  | For t e body z pos => cases z <;> first | exact ⟨_, _, _, _, rfl, h⟩ | exact ff h
  | _ => exact ff h
theorem as_ret {m : ME} {st : Stmt} (h : agS P S (.ret m) st = true) : ∃ e pos, st = .Return (some e) pos ∧ agE P S m e = true := by
  cases st with
  | Return e pos => cases e <;> first | exact ⟨_, _, rfl, h⟩ | exact ff h
  | _ => exact ff h
theorem assign_sound (T : SitS C S P Φ Gc) (G : Good C σ ls s) {i : Nat} {m : ME} {x : Str} {pt pos : Pos} {e : Expr} {Q : View → Ls → Prop} {R : Post} (hi : S.vars[i]? = some x) (hs : storable S x = true) (hc : isComp e = isCompM m) (ha : agE P S m e = true)
    (h : ewp Φ Gc ls m (fun d σ' => Q σ' (ls.set i d)) σ) : TrS C (exec (.Assign [.Name x pt] e pos) C.env) Q R σ s := by
  by_cases hcm : isCompM m = true
  · refine Exists.elim (compM_inv hcm) fun mm hx => ?_; obtain ⟨elt, xi, it, ifs, rfl⟩ := hx
    have ha' := ha
    replace ha := ag_comp ha; obtain ⟨el, tg, iter, fs, scope, pos', rfl, ha⟩ := ha
    · skip
      simp only [Bool.and_eq_true] at ha
      obtain ⟨⟨⟨⟨⟨h1, h2⟩, h3⟩, h4⟩, h5⟩, h6⟩ := ha
      refine Exists.elim (tg_some h1) ?_; rintro ys hq0
      by_cases hsw : swaps S x pt (.ListComp el [⟨tg, iter, fs, 0⟩] scope pos') = true
      · have hsw' : swapsWith (.ListComp el [⟨tg, iter, fs, 0⟩] scope pos') (some (.Name x pt)) pos.line C.env = pure true := by
          unfold swaps at hsw
          dsimp only [swapsWith]
          simp only [Bool.and_eq_true] at hsw
          have hb : C.env.blockKind = .function := by unfold Env.blockKind; rw [G.fr.kind]; rfl
          show (pure _ : Sem Bool) = _
          congr 1
          rw [hb, kindOf_eq T.of]
          simp only [beq_self_eq_true, Bool.true_and, Bool.and_eq_true]
          exact hsw
        have hk : C.env.kindOf x = some .local := by
          rw [kindOf_eq T.of]
          unfold swaps at hsw
          simp only [Bool.and_eq_true, beq_iff_eq] at hsw
          exact hsw.1.1
        exact comp_assign (m := mm) T.toSit G hq0.2 hq0.1 h3 hi hk hsw' ((snd_i it T.toSit hq0.1 h2 h4 G h).mono (comp_q (snd_ess ifs).2.2.2.2.2 (snd_et elt).1 T.toSit G.fr.kind h5 h6))
      · refine tr_assign T G hi hs ?_ (snd_e _ T.toSit ha' G h)
        have hsw2 : swaps S x pt (.ListComp el [⟨tg, iter, fs, 0⟩] scope pos') = false := by simpa using hsw
        unfold swaps at hsw2
        skip
        have hb : C.env.blockKind = .function := by unfold Env.blockKind; rw [G.fr.kind]; rfl
        show (pure _ : Sem Bool) = _
        congr 1
        rw [hb, kindOf_eq T.of]
        skip
        exact hsw2
  · have hcm' : isComp e = false := by rw [hc]; simpa using hcm
    exact tr_assign T G hi hs (swaps_plain hcm') (snd_e m T.toSit ha G h)
end
end Mine
end

section

open PySem PyProof.Rows
set_option linter.unusedVariables false
set_option maxHeartbeats 4000000
namespace Mine
section
variable {P : Pg} {Φ : Spec} {Gc : Nat → V} {C : Cx} {S : Sc} {ls : Ls} {σ : View} {s : Shared}

theorem false_noted {M : Model} {A : Around} {env : Env} {E : Value → Shared → Prop} {v : Value} {s : Shared} (h : False) : notedBy M A env E v s := h.elim

inductive WInv (C : Cx) (I : Nat → View → Ls → Prop) (h : Heap) (σ : View) (n : Nat) (s' : Shared) : Prop
  | mk (σ' : View) (ls' : Ls) : I n σ' ls' → Good C σ' ls' s' → Step C.own h σ s'.heap σ' → WInv C I h σ n s'
theorem while_sound (T : SitS C S P Φ Gc) (G : Good C σ ls s) {test : Expr} {body : List Stmt} {pos : Pos} {Q : View → Ls → Prop} {R : Post} (I : Nat → View → Ls → Prop) (h0 : ∃ n, I n σ ls)
    (turn : ∀ n σ₁ ls₁ s₁, I n σ₁ ls₁ → Good C σ₁ ls₁ s₁ → TrE C ls₁ (isTrue test C.env (eval test C.env)) (fun c σ₂ s₂ => if c = true then TrS C (execs body C.env) (fun σ₃ ls₃ => ∃ m, m < n ∧ I m σ₃ ls₃) R σ₂ s₂ else Q σ₂ ls₁) σ₁ s₁) :
    TrS C (exec (.While test body [] pos) C.env) Q R σ s := by
  refine Exists.elim h0 ?_; rintro n hI
  refine wpAny_While (codeAny_whileLoop (WInv C I s.heap σ) ?_ n ⟨σ, ls, hI, G, Step.refl _ _ _⟩)
  rintro n s' ⟨σ', ls', hI', G', S'⟩
  refine wpAny_mono (turn n σ' ls' s' hI' G') ?_ fun _ _ x => false_noted x
  rintro c s₂ ⟨σ₂, G₂, S₂, h₂⟩
  cases c with
  | false => exact wpAny_execs_nil ⟨σ₂, S'.trans S₂, ls', G₂, h₂⟩
  | true =>
    refine wpAny_mono h₂ ?_ fun _ _ x => false_noted x
    rintro f s₃ ⟨σ₃, S₃, hf⟩
    cases f with
    | next => obtain ⟨ls₃, G₃, m, hq0⟩ := hf; exact ⟨m, hq0.1, σ₃, ls₃, hq0.2, G₃, (S'.trans S₂).trans S₃⟩
    | ret v => obtain ⟨ls₃, x, G₃, r, q⟩ := hf; exact ⟨σ₃, (S'.trans S₂).trans S₃, ls₃, x, G₃, r, q⟩
    | _ => exact hf.elim

/-- where a for loop stands -/
inductive FInv (C' : Cx) (own : Addr → Prop) (h : Heap) (σ₀ : View) (z : Nat) (St : Nat → Heap → Prop) (J : Nat → View → Ls → Prop) : Nat → Shared → Prop
  | mk {s' : Shared} (k : Nat) (σ' : View) (ls' : Ls) : k ≤ z → J k σ' ls' → Good C' σ' ls' s' → Step own h σ₀ s'.heap σ' → St k s'.heap → FInv C' own h σ₀ z St J (z + 1 - k) s'
inductive ForQ (C : Cx) (ls : Ls) (t : Tg) (body : List Stmt) (Q : View → Ls → Prop) (R : Post) (xs us : List V) (σ₁ : View) : Prop
  | mk (I : Nat → View → Ls → Prop) : I 0 (lockV σ₁ us) ls →
      (∀ wr k v σ₂ ls₂ s₂, xs[k]? = some v → I k σ₂ ls₂ → Good (C.more wr) σ₂ (t.up v ls₂) s₂ → TrS (C.more wr) (execs body C.env) (fun σ₃ ls₃ => I (k + 1) σ₃ ls₃) (fun d σ₃ => R d (unlockV σ₁ us σ₃)) σ₂ s₂) →
      (∀ σ₂ ls₂, I xs.length σ₂ ls₂ → Q (unlockV σ₁ us σ₂) ls₂) → ForQ C ls t body Q R xs us σ₁
theorem for_sound (T : SitS C S P Φ Gc) (G : Good C σ ls s) {t : Tg} {tgt : Expr} {iter : Expr} {body : List Stmt} {pos : Pos} {Q : View → Ls → Prop} {R : Post} (hA : ∀ wr, Asg (C.more wr) tgt (rpOf t) t.up) (hns : notSet iter = true)
    (h : SrcAt C ls t tgt iter (ForQ C ls t body Q R) σ s) : TrS C (exec (.For tgt iter body [] pos) C.env) Q R σ s := by
  refine wpAny_For (wpAny_mono h ?_ fun _ _ x => x) (folded_plain hns)
  rintro r s' ⟨σ₁, s₁, us, xs, G₁, S₁, src, J, hJ, hturn, hfin⟩
  refine src _ fun it wr h₂ tk fp Pp St I st k₂ hz₂ => ?_
  have wrn := I.new
  have wro : ∀ b, C.own b ∨ C.B b → b ∉ wr := fun b hb h => absurd (G₁.toGround.lt (.inr hb)) (Nat.not_lt.mpr (wrn b h))
  have GL := G₁.lock us
  have G₂ : Good (C.more wr) (lockV σ₁ us) ls { s₁ with heap := h₂, toks := tk } := GL.enterL k₂ hz₂ fun a ha => ⟨wrn a ha, I.alive 0 h₂ st a ha⟩
  have S₂ : Step (fun a => C.own a ∨ a ∈ wr) s₁.heap (lockV σ₁ us) h₂ (lockV σ₁ us) := ⟨fun b o e _ _ => k₂ b o e, hz₂, fun _ h1 h2 => absurd h2 h1, fun _ _ _ e _ => .inl e⟩
  have wrB : ∀ b ∈ wr, (C.more wr).own b ∨ (C.more wr).B b := fun b hb => .inr (.inr hb)
  have hlw : (C.more wr).env.locals ∉ wr := wro _ (.inl G₁.fr.ownL)
  have hcw : ∀ x c, (C.more wr).env.cells.lookup x = some c → c ∉ wr := fun x c e => wro c (G₁.fr.cells x c e).1
  have T' : SitS (C.more wr) S P Φ Gc := T.more
  have back : ∀ {σ' : View} {ls' : Ls} {s' : Shared}, Good (C.more wr) σ' ls' s' → Step (fun a => C.own a ∨ a ∈ wr) s₁.heap (lockV σ₁ us) s'.heap σ' → Good C (unlockV σ₁ us σ') ls' s' ∧ Step C.own s.heap σ s'.heap (unlockV σ₁ us σ') := by
    intro σ' ls' s' G' S'
    have Gc' : Good C σ' ls' s' := Good.leaveL G₁ G'
    have Sc' : Step C.own s₁.heap (lockV σ₁ us) s'.heap σ' := Step.leaveL (C := C) (wr := wr) (fun _ _ e => e) (Nat.le_refl _) wrn S'
    have hq3 := unlock (us := us) (fun b hb => G₁.toGround.lt (.inl hb)) Gc' Sc'
    exact ⟨hq3.1, S₁.trans hq3.2⟩
  refine codeAny_forLoop_any (FInv (C.more wr) (fun a => C.own a ∨ a ∈ wr) s₁.heap (lockV σ₁ us) xs.length St J) ?_ (xs.length + 1) (.mk 0 _ ls (Nat.zero_le _) hJ G₂ S₂ st)
  rintro m s' ⟨k, σ', ls', hkl, hJk, G', S', st'⟩
  by_cases hlt : k < xs.length
  · refine I.item' hlt st' (fun v s₂ h => wpAny_mono h (fun _ _ h => h) fun _ _ x => false_noted x) fun v h' tk' hP st'' hk' hz' => ?_
    obtain ⟨G₅, S₅, L₅⟩ := G'.quietW (tk := tk') wrB hlw hcw hz' hk' (I.alive _ _ st'')
    have S₅ := S₅ (fun a => C.own a ∨ a ∈ wr) fun b hb => .inr hb
    have S05 := S'.trans S₅
    have Lb : Leaves s₁.heap (C.D (lockV σ₁ us)) h' ((C.more wr).D σ') := fun b o e hd => by
      have hlt := Heap.lt_size e
      have hn : lockV σ₁ us b = none := by
        cases q : lockV σ₁ us b with
        | none => rfl
        | some c => exact absurd (.inl (not_some q)) hd
      have hbw : b ∉ wr := fun h => absurd hlt (Nat.not_lt.mpr (wrn b h))
      refine ⟨S05.keep b o e (Rw.of_none hn) fun h => h.elim (fun h => hd (.inr (.inl h))) hbw, fun h => ?_⟩
      rcases (D_more b).mp h with (h | h) | h
      · exact h (S05.none hlt hn)
      · exact hd (.inr h)
      · exact hbw h
    refine Exists.elim (I.val k v s'.heap.objs.size h' ((C.more wr).D σ') hlt Lb (fun a ha => G'.toGround.lt ha) hP) ?_; rintro xv hq2
    refine wpAny_mono (hA wr σ' ls' _ v xv G₅ hq2.2) ?_ fun _ _ x => false_noted x
    rintro _ s₆ ⟨G₆, S₆⟩
    refine wpAny_mono (hturn wr k xv σ' (ls') s₆ hq2.1 hJk G₆) ?_ fun _ _ x => false_noted x
    rintro f s₇ ⟨σ₇, S₇, hf⟩
    have stKeep : ∀ {hA hB : Heap} {σA σB : View} {sA : Shared} {lA : Ls}, sA.heap = hA → Good (C.more wr) σA lA sA → Step (C.more wr).own hA σA hB σB → Step (fun a => C.own a ∨ a ∈ wr) s₁.heap (lockV σ₁ us) hA σA → St (k + 1) hA → St (k + 1) hB := by
      rintro hA hB σA σB sA lA rfl GA SA SA₀ stA
      refine I.frame _ _ _ stA fun b hb o e => ?_
      rcases I.fps b hb with h | ⟨h1, h2, h3⟩
      · exact SA.keep b o e (Rw.of_none (GA.apart b (.inr (.inr h)))) fun h' => GA.apart2 b h' (.inr h)
      · exact SA.keep b o e (SA₀.notRw h1 h2) h3
    have st₆ := stKeep rfl G₅ S₆ S05 st''
    have S06 := S05.trans (S₆.weaken fun a h => .inl h)
    have S07 := S06.trans (S₇.weaken fun a h => .inl h)
    cases f with
    | next =>
      obtain ⟨ls₇, G₇, hJ₇⟩ := hf
      exact ⟨_, Nat.sub_lt_sub_left (Nat.lt_succ_of_lt hlt) (Nat.lt_succ_self k), .mk (k + 1) σ₇ ls₇ hlt hJ₇ G₇ S07 (stKeep rfl G₆ S₇ S06 st₆)⟩
    | ret v =>
      obtain ⟨ls₇, x, G₇, r, q⟩ := hf
      have hq1 := back G₇ S07
      refine ⟨_, hq1.2, ls₇, x, hq1.1, ?_, q⟩
      have e : C.D (unlockV σ₁ us σ₇) = C.D σ₇ := by
        funext b
        unfold Cx.D
        rcases unlockV_cases σ₁ σ₇ us with e | ⟨a', c, c', _, _, e2, e⟩
        · rw [e]
        · refine e ▸ ?_
          by_cases q : b = a'
          · subst q; simp [e2]
          · rw [upd_ne q]
      refine e ▸ ?_
      exact r.leaves (leaves_less _)
    | _ => exact hf.elim
  · have hk0 : k = xs.length := Nat.le_antisymm hkl (Nat.not_lt.mp hlt)
    subst hk0
    refine I.done' st' fun h' tk' hk' hz' => wpAny_execs_nil ?_
    have S₈ : Step (fun a => C.own a ∨ a ∈ wr) s'.heap σ' h' σ' := ⟨fun b o e _ ho => hk' b o (fun h => ho (.inr h)) e, hz', fun _ h1 h2 => absurd h2 h1, fun _ _ _ e _ => .inl e⟩
    have Gc' : Good C σ' ls' { s' with heap := h', toks := tk' } := Good.endL G₁ G' wro hz' hk'
    have Sc' : Step C.own s₁.heap (lockV σ₁ us) h' σ' := Step.leaveL (C := C) (wr := wr) (fun _ _ e => e) (Nat.le_refl _) wrn (S'.trans S₈)
    have hq0 := unlock (us := us) (s₃ := { s' with heap := h', toks := tk' }) (fun b hb => G₁.toGround.lt (.inl hb)) Gc' Sc'
    exact ⟨_, S₁.trans hq0.2, ls', hq0.1, hfin σ' ls' hJk⟩
end
end Mine
end

section

open PySem PyProof.Rows
set_option linter.unusedVariables false
set_option maxHeartbeats 4000000
namespace Mine
section
variable {P : Pg} {Φ : Spec} {Gc : Nat → V}

theorem Good.freezeVar {C : Cx} {ls : Ls} {σ : View} {s : Shared} {i : Nat} {a : Addr} {d : V} (G : Good C σ ls s) (hi : ls i = some (.ref a)) (hd : Real s.heap (C.D (σ.del a)) (.ref a) d) : Good C (σ.del a) (ls.set i d) s := by
  have G' := G.del (a := a)
  refine ⟨G'.toGround, ?_⟩
  have F := G'.fr
  refine ⟨F.kind, F.glob, F.blt, F.ns, F.ownL, F.cells, F.inj, fun j x d' e1 e2 e3 => ?_, F.nodup, F.has⟩
  unfold Ls.set at e3
  split at e3
  · rename_i q
    cases e3; subst q
    obtain ⟨v, hq0⟩ := F.val j x _ e1 e2 hi
    obtain rfl := hq0.2.ref_i
    exact ⟨_, hq0.1, hd⟩
  · exact F.val j x d' e1 e2 e3

theorem tr_execs_cons {C : Cx} {σ : View} {s : Shared} {st : Stmt} {rest : List Stmt} {Q : View → Ls → Prop} {R : Post} {Q₁ : View → Ls → Prop} (h : TrS C (exec st C.env) Q₁ R σ s)
    (h' : ∀ σ' ls' s', Good C σ' ls' s' → Q₁ σ' ls' → TrS C (execs rest C.env) Q R σ' s') : TrS C (execs (st :: rest) C.env) Q R σ s := by
  refine wpAny_execs_cons (wpAny_mono h ?_ fun _ _ x => x)
  rintro f s₁ ⟨σ₁, S₁, hf⟩
  cases f with
  | next =>
    obtain ⟨ls₁, G₁, q⟩ := hf
    exact (h' σ₁ ls₁ s₁ G₁ q).after S₁
  | ret v => exact ⟨σ₁, S₁, hf⟩
  | _ => exact hf.elim

noncomputable def SndS (P : Pg) (Φ : Spec) (Gc : Nat → V) (m : MS) : Prop := ∀ {C : Cx} {S : Sc} {ls : Ls} {σ : View} {s : Shared} {st : Stmt} {Q : View → Ls → Prop} {R : Post}, SitS C S P Φ Gc → agS P S m st = true → Good C σ ls s → swp Φ Gc m Q R σ ls → TrS C (exec st C.env) Q R σ s
noncomputable def SndSs (P : Pg) (Φ : Spec) (Gc : Nat → V) (ms : MSs) : Prop := ∀ {C : Cx} {S : Sc} {ls : Ls} {σ : View} {s : Shared} {ss : List Stmt} {Q : View → Ls → Prop} {R : Post}, SitS C S P Φ Gc → agSs P S ms ss = true → Good C σ ls s → swps Φ Gc ms Q R σ ls → TrS C (execs ss C.env) Q R σ s
theorem c_s_assign {i : Nat} {m : ME} : SndS P Φ Gc (.assign i m) := by
    intro C S ls σ s st Q R T h G hw
    replace h := as_assign h; obtain ⟨x, pt, e, pos, rfl, h⟩ := h
    simp only [Bool.and_eq_true, beq_iff_eq] at h
    exact assign_sound T G h.1.1.1 h.1.1.2 h.1.2 h.2 hw
theorem c_s_setSub {o k m : ME} : SndS P Φ Gc (.setSub o k m) := by
    intro C S ls σ s st Q R T h G hw
    replace h := as_setSub h; obtain ⟨b, i, p, e, pos, rfl, h⟩ := h
    simp only [Bool.and_eq_true, Bool.not_eq_true'] at h
    refine wpAny_Assign_Subscript (wpAny_mono (snd_e m T.toSit h.2 G hw) ?_ fun _ _ x => x) (swaps_plain h.1.1.1)
    rintro v s₁ ⟨σ₁, G₁, S₁, d, rd, hw₁⟩
    refine wpAny_mono (snd_e o T.toSit h.1.1.2 G₁ hw₁) ?_ fun _ _ x => x
    rintro ov s₂ ⟨σ₂, G₂, S₂, x, rx, hw₂⟩
    refine wpAny_mono (snd_e k T.toSit h.1.2 G₂ hw₂) ?_ fun _ _ x => x
    rintro kv s₃ ⟨σ₃, G₃, S₃, y, ry, a, j, es, rfl, rfl, he, hl, hq⟩
    refine wpAny_mono (g_setItem (Q := fun σ' => Q σ' ls) G₃ (rx.step G₂ S₃) ry ((rd.step G₁ S₂).step G₂ S₃) he hl hq) ?_ fun _ _ x => x
    rintro _ s₄ ⟨σ₄, G₄, S₄, q⟩
    exact ⟨σ₄, ((S₁.trans S₂).trans S₃).trans S₄, ls, G₄, q⟩
theorem c_s_expr {m : ME} : SndS P Φ Gc (.expr m) := by
    intro C S ls σ s st Q R T h G hw
    replace h := as_expr h; obtain ⟨e, pos, rfl, h⟩ := h
    simp only [Bool.and_eq_true, Bool.not_eq_true'] at h
    refine wpAny_Expr_any (wpAny_mono (snd_e m T.toSit h.2 G hw) ?_ fun _ _ x => x) (fn_interactive G.fr.kind) (swaps_plain h.1)
    rintro v s₁ ⟨σ₁, G₁, S₁, d, rd, q⟩
    exact ⟨σ₁, S₁, ls, G₁, q⟩
theorem c_s_ite {t : ME} {a b : MSs} (ih0 : SndSs P Φ Gc a) (ih1 : SndSs P Φ Gc b) : SndS P Φ Gc (.ite t a b) := by
    intro C S ls σ s st Q R T h G hw
    replace h := as_ite h; obtain ⟨e, x, y, pos, rfl, h⟩ := h
    simp only [Bool.and_eq_true] at h
    refine wpAny_If (wpAny_mono (snd_t t (Q := fun c σ' => if c = true then swps Φ Gc a Q R σ' ls else swps Φ Gc b Q R σ' ls) T.toSit h.1.1 G hw) ?_ fun _ _ x => x)
    rintro c s₁ ⟨σ₁, G₁, S₁, hw₁⟩
    cases c with
    | true => exact (ih0 T h.1.2 G₁ hw₁).after S₁
    | false => exact (ih1 T h.2 G₁ hw₁).after S₁
theorem c_s_loop {t : ME} {b : MSs} (ih0 : SndSs P Φ Gc b) : SndS P Φ Gc (.loop t b) := by
    intro C S ls σ s st Q R T h G hw
    replace h := as_loop h; obtain ⟨e, x, pos, rfl, h⟩ := h
    simp only [Bool.and_eq_true] at h
    refine Exists.elim hw ?_; rintro I hq0
    refine while_sound T G I hq0.1 fun n σ₁ ls₁ s₁ hI G₁ => ?_
    refine TrE.mono (snd_t t (Q := fun c σ₂ => if c = true then swps Φ Gc b (fun σ₃ ls₃ => ∃ m, m < n ∧ I m σ₃ ls₃) R σ₂ ls₁ else Q σ₂ ls₁) T.toSit h.1 G₁ (hq0.2 n σ₁ ls₁ hI)) fun c σ₂ s₂ G₂ _ h₂ => ?_
    cases c with
    | true => exact ih0 T h.2 G₂ h₂
    | false => exact h₂
theorem tg_all {S : Sc} {i : Tg} {tg : Expr} (h : (match agTg S i tg with | some ys => ys.all (storable S) | none => false) = true) : ∃ ys, agTg S i tg = some ys ∧ ys.all (storable S) = true := by
    cases hq : agTg S i tg with
    | none => rw [hq] at h; exact ff h
    | some ys => rw [hq] at h; exact ⟨ys, rfl, h⟩
theorem c_s_for {i : Tg} {it : MI} {b : MSs} (ih0 : SndSs P Φ Gc b) : SndS P Φ Gc (.for1 i it b) := by
    intro C S ls σ s st Q R T h G hw
    replace h := as_for h; obtain ⟨tg, e, body, pos, rfl, h⟩ := h
    simp only [Bool.and_eq_true] at h
    refine Exists.elim (tg_all h.1.1.1.1) ?_; rintro ys hq1
    refine for_sound T G (fun _ => for_asg T hq1.1 hq1.2) h.1.1.2 ((snd_i it T.toSit hq1.1 h.1.1.1.2 h.1.2 G hw).mono fun xs us σ₁ q => ?_)
    refine Exists.elim q ?_; rintro I hq0
    exact .mk I hq0.1 (fun wr k v σ₂ ls₂ s₂ hv hI G₂ => ih0 (C := C.more wr) T.more h.2 G₂ (hq0.2.1 k v σ₂ ls₂ hv hI)) hq0.2.2
theorem c_s_ret {m : ME} : SndS P Φ Gc (.ret m) := by
    intro C S ls σ s st Q R T h G hw
    replace h := as_ret h; obtain ⟨e, pos, rfl, h⟩ := h
    refine wpAny_Return_some (wpAny_mono (snd_e m T.toSit h G hw) ?_ fun _ _ x => x)
    rintro v s₁ ⟨σ₁, G₁, S₁, d, rd, q⟩
    exact ⟨σ₁, S₁, ls, d, G₁, rd, q⟩
theorem c_s_freeze {i : Nat} : SndS P Φ Gc (.freeze i) := by
    intro C S ls σ s st Q R T h G hw
    exact ff h
theorem c_ss_nil : SndSs P Φ Gc .nil := by
    intro C S ls σ s ss Q R T h G hw
    obtain rfl := List.isEmpty_iff.mp (show ss.isEmpty = true from h)
    exact wpAny_execs_nil ⟨σ, Step.refl _ _ _, ls, G, hw⟩
theorem c_ss_freeze {i : Nat} {r : MSs} (ih1 : SndSs P Φ Gc r) : SndSs P Φ Gc (.cons (.freeze i) r) := by
    intro C S ls σ s ss Q R T h G hw
    refine Exists.elim hw ?_; rintro a hq0
    rcases hq0.2 with ⟨xs, e, q⟩ | ⟨es, e, q⟩
    · exact (ih1 T h (G.freezeVar hq0.1 (G.freezeL e)) q).after (Step.del _ _ _ _)
    · exact (ih1 T h (G.freezeVar hq0.1 (G.freezeD T.R.ok e)) q).after (Step.del _ _ _ _)
theorem c_ss_cons {m : MS} {r : MSs} (ih0 : SndS P Φ Gc m) (ih1 : SndSs P Φ Gc r) (hm : ∀ {S : Sc} {ss : List Stmt}, agSs P S (.cons m r) ss = true → ∃ st rest, ss = st :: rest ∧ agS P S m st = true ∧ agSs P S r rest = true) : SndSs P Φ Gc (.cons m r) := by
    intro C S ls σ s ss Q R T h G hw
    refine Exists.elim (hm h) fun st hx => ?_; obtain ⟨rest, rfl, hq0⟩ := hx
    exact tr_execs_cons (ih0 T hq0.1 G hw) fun σ' ls' s' G' q => ih1 T hq0.2 G' q
theorem ss_inv {b c : Stmt → List Stmt → Bool} {ss : List Stmt} (h : (match ss with | st :: rest => b st rest && c st rest | [] => false) = true) : ∃ st rest, ss = st :: rest ∧ b st rest = true ∧ c st rest = true := by
    cases ss with
    | nil => exact ff h
    | cons st rest => have hq0 := Bool.and_eq_true_iff.mp h; exact ⟨st, rest, rfl, hq0.1, hq0.2⟩
mutual
theorem snd_sx : ∀ m : MS, SndS P Φ Gc m
  | .assign _ _ => c_s_assign
  | .setSub _ _ _ => c_s_setSub
  | .expr _ => c_s_expr
  | .ite _ a b => c_s_ite (snd_ssx a) (snd_ssx b)
  | .loop _ b => c_s_loop (snd_ssx b)
  | .for1 _ _ b => c_s_for (snd_ssx b)
  | .ret _ => c_s_ret
  | .freeze _ => c_s_freeze
theorem snd_ssx : ∀ ms : MSs, SndSs P Φ Gc ms
  | .nil => c_ss_nil
  | .cons m r => by
    have a : SndS P Φ Gc m := snd_sx m
    have b : SndSs P Φ Gc r := snd_ssx r
    cases m with
    | freeze i => exact c_ss_freeze b
    | _ => exact c_ss_cons a b fun h => ss_inv (b := fun st rest => agS P _ _ st) (c := fun st rest => agSs P _ r rest) h
end
theorem snd_ss (ms : MSs) {C : Cx} {S : Sc} {ls : Ls} {σ : View} {s : Shared} {ss : List Stmt} {Q : View → Ls → Prop} {R : Post} (T : SitS C S P Φ Gc) (h : agSs P S ms ss = true) (G : Good C σ ls s) (hw : swps Φ Gc ms Q R σ ls) : TrS C (execs ss C.env) Q R σ s := snd_ssx ms T h G hw
end
end Mine
end

section

open PySem PySem.Calls PyProof.Rows
namespace Mine
noncomputable def simpleP (p : Arguments) : Bool := p.posonlyargs.isEmpty && p.vararg.isNone && p.kwonlyargs.isEmpty && p.kw_defaults.isEmpty && p.kwarg.isNone && p.defaults.isEmpty
theorem zip_lookup : ∀ {names : List Str} {vals : List Value}, vals.length = names.length → names.Nodup → ∀ (i : Nat) (n : Str) (v : Value), names[i]? = some n → vals[i]? = some v → (names.zip vals).lookup n = some v
  | [], _, _, _, i, n, v, h, _ => by simp at h
  | m :: ms, [], hl, _, _, _, _, _, _ => by simp at hl
  | m :: ms, w :: ws, hl, hn, i, n, v, h1, h2 => by
    obtain ⟨ha, hr⟩ := List.nodup_cons.mp hn
    cases i with
    | zero => simp at h1 h2; subst h1 h2; simp [List.lookup_cons]
    | succ i =>
      simp at h1 h2
      have hne : n ≠ m := by rintro rfl; exact ha (List.mem_iff_getElem?.mpr ⟨i, h1⟩)
      have hb : (n == m) = false := by simpa using hne
      simp only [List.zip_cons_cons, List.lookup_cons, hb]
      exact zip_lookup (by simpa using hl) hr i n v h1 h2
theorem zip_lookup_some {names : List Str} {vals : List Value} (hl : vals.length = names.length) (hn : names.Nodup) {n : Str} (h : n ∈ names) : ∃ v, (names.zip vals).lookup n = some v := by
  refine Exists.elim (List.mem_iff_getElem?.mp h) ?_; rintro i hi
  have hlt : i < names.length := (List.getElem?_eq_some_iff.mp hi).1
  have hv : vals[i]? = some vals[i] := by simp
  exact ⟨_, zip_lookup hl hn i n _ hi (List.getElem?_eq_getElem (by (first | lia | omega)))⟩
theorem zip_filterMap : ∀ {names : List Str} {vals : List Value}, vals.length = names.length → names.Nodup → (names.filterMap fun n => ((names.zip vals).lookup n).map (n, ·)) = names.zip vals := by
  intro names vals hl hn
  have key : ∀ (ns : List Str) (ws : List Value) (pre : List Str) (pws : List Value), ws.length = ns.length → pws.length = pre.length → (pre ++ ns).Nodup → (ns.filterMap fun n => (((pre ++ ns).zip (pws ++ ws)).lookup n).map (n, ·)) = ns.zip ws := by
    intro ns
    induction ns with
    | nil => intro ws pre pws _ _ _; rfl
    | cons n ns ih =>
      intro ws pre pws hw hp hnd
      cases ws with
      | nil => simp at hw
      | cons w ws =>
        have e : ((pre ++ n :: ns).zip (pws ++ w :: ws)).lookup n = some w := by
          refine zip_lookup (by simp at hw ⊢; (first | lia | omega)) hnd pre.length n w (by simp) (by rw [← hp]; simp)
        rw [List.filterMap_cons, e]
        simp only [Option.map_some, List.zip_cons_cons]
        have := ih ws (pre ++ [n]) (pws ++ [w]) (by simpa using hw) (by simp [hp]) (by simpa using hnd)
        simp only [List.append_assoc, List.singleton_append] at this
        simp only [this]
  simpa using key names vals [] [] hl rfl (by exact hn)
theorem bind_simple {name : Str} {p : Arguments} {body : List Stmt} {scope : Scope} {pm code doc : Value} {vals : List Value} (h : simpleP p = true) (hn : (p.args.map (·.arg)).Nodup) (hl : vals.length = p.args.length) :
    bindArgs (docDef name p body scope pm code doc) ⟨vals, []⟩ = pure ((p.args.map (·.arg)).zip vals) := by
  unfold simpleP at h
  simp only [Bool.and_eq_true, List.isEmpty_iff, Option.isNone_iff_eq_none] at h
  obtain ⟨⟨⟨⟨⟨h1, h2⟩, h3⟩, h4⟩, h5⟩, h6⟩ := h
  have hl' : vals.length = (p.args.map (·.arg)).length := by simpa using hl
  have hmiss : ((p.args.map (·.arg)).filter fun n => (((p.args.map (·.arg)).zip vals).lookup n).isNone) = [] := by
    rw [List.filter_eq_nil_iff]
    intro n hm
    refine Exists.elim (zip_lookup_some hl' hn hm) ?_; rintro v hv
    simp [hv]
  have e : seqItems? Value.none = pure none := rfl
  have htk : List.take p.args.length (p.args.map (·.arg)) = p.args.map (·.arg) := List.take_of_length_le (by simp)
  dsimp only [bindArgs, docDef]
  simp only [h1, h2, h3, h5, e, List.map_nil, List.nil_append, List.forIn_nil, pure_bind, Option.getD_none, Array.toList_empty, List.length_nil, List.drop_nil, Nat.sub_zero, hl, List.length_map, htk, hmiss, List.zip_nil_right, List.append_nil, zip_filterMap hl' hn]
  simp
end Mine
end

section

open PySem PySem.Calls PyProof.Rows
set_option linter.unusedVariables false
namespace Mine

structure Fn where
  d : DefRec
  ms : MSs
  vars : List Str

noncomputable def argLs (xs : List V) : Ls := fun i => xs[i]?

noncomputable def agFn (P : Pg) (F : Fn) : Bool :=
  simpleP F.d.params && decide (F.vars.Nodup) && (F.vars.take F.d.params.args.length == F.d.params.args.map (·.arg)) && F.d.scope.kind == .function && !F.d.scope.isCoroutine && !F.d.scope.isGenerator &&
  (F.d.scope.names.all fun (n, k) => k != .free && F.d.scope.names.lookup n == some k) && (F.d.params.args.all fun a => F.d.scope.names.lookup a.arg == some .local || F.d.scope.names.lookup a.arg == some .cell) &&
  agSs P ⟨F.d.scope.names, F.vars⟩ F.ms F.d.body

theorem cellsFrom_some : ∀ (names : List (Str × NameKind)) (n0 : Nat) (acc : List (Str × Addr)) (x : Str), ((x, NameKind.cell) ∈ names ∨ (acc.lookup x).isSome = true) → ((cellsFrom n0 names acc).lookup x).isSome = true
  | [], n0, acc, x, h => by
    rcases h with h | h
    · cases h
    · exact h
  | (n, k) :: r, n0, acc, x, h => by
    unfold cellsFrom
    split
    · rename_i hk
      refine cellsFrom_some r _ _ x ?_
      by_cases q : x = n
      · right; subst q; simp [List.lookup_cons]
      · have hb : (x == n) = false := by simpa using q
        rcases h with h | h
        · rcases List.mem_cons.mp h with e | h
          · cases e; exact absurd rfl q
          · exact .inl h
        · right; simp only [List.lookup_cons, hb]; exact h
    · rename_i hk
      refine cellsFrom_some r _ _ x ?_
      rcases h with h | h
      · rcases List.mem_cons.mp h with e | h
        · cases e; simp at hk
        · exact .inl h
      · exact .inr h
theorem bindL_other (ko : Str → Option NameKind) : ∀ (binds : List (Str × Value)) (m : Str → Option Value) (x : Str), x ∉ binds.map (·.1) → bindL ko binds m x = m x
  | [], m, x, _ => rfl
  | (n, v) :: r, m, x, h => by
    simp at h
    unfold bindL
    rw [bindL_other ko r _ x (by simpa using h.2)]
    split
    · simp [h.1]
    · rfl
theorem bindL_at (ko : Str → Option NameKind) : ∀ (binds : List (Str × Value)) (m : Str → Option Value) (x : Str) (v : Value), (binds.map (·.1)).Nodup → binds.lookup x = some v → ko x = some .local → bindL ko binds m x = some v
  | [], m, x, v, _, h, _ => by simp at h
  | (n, w) :: r, m, x, v, hn, h, hk => by
    simp only [List.map_cons, List.nodup_cons] at hn
    rw [List.lookup_cons] at h
    unfold bindL
    split at h
    · rename_i q
      have q' := beq_iff_eq.mp q
      cases h; subst q'
      rw [bindL_other ko r _ x hn.1, if_pos hk]; simp
    · exact bindL_at ko r _ x v hn.2 h hk
theorem bindC_other (ko : Str → Option NameKind) : ∀ (binds : List (Str × Value)) (m : Str → Option Value) (x : Str), x ∉ binds.map (·.1) → bindC ko binds m x = m x
  | [], m, x, _ => rfl
  | (n, v) :: r, m, x, h => by
    simp at h
    unfold bindC
    rw [bindC_other ko r _ x (by simpa using h.2)]
    split
    · rfl
    · simp [h.1]
theorem bindC_at (ko : Str → Option NameKind) : ∀ (binds : List (Str × Value)) (m : Str → Option Value) (x : Str) (v : Value), (binds.map (·.1)).Nodup → binds.lookup x = some v → ko x ≠ some .local → bindC ko binds m x = some v
  | [], m, x, v, _, h, _ => by simp at h
  | (n, w) :: r, m, x, v, hn, h, hk => by
    simp only [List.map_cons, List.nodup_cons] at hn
    rw [List.lookup_cons] at h
    unfold bindC
    split at h
    · rename_i q
      have q' := beq_iff_eq.mp q
      cases h; subst q'
      rw [bindC_other ko r _ x hn.1, if_neg hk]; simp
    · exact bindC_at ko r _ x v hn.2 h hk
end Mine
end

section

open PySem PySem.Calls PyProof.Rows
set_option linter.unusedVariables false
namespace Mine

noncomputable def Cx.call (C : Cx) (env : Env) (vars : List Str) : Cx :=
  { W := C.W, A := C.A.deeper env, env := env, vars := vars, own := fun a => a = env.locals ∨ ∃ n, env.cells.lookup n = some a, B := fun a => C.own a ∨ C.B a }

section
variable {C : Cx} {P : Pg} {Φ : Spec} {Gc : Nat → V} {ls : Ls} {σ : View} {s : Shared}

theorem codeRec_keeps {h h' : Heap} {c : Value} {q : Str} (x : h.CodeRec c q) (k : ∀ b o, h.get? b = some o → h'.get? b = some o) : h'.CodeRec c q := by
  refine Exists.elim x fun a hx => ?_; obtain ⟨o, vs, t, hq0⟩ := hx
  exact ⟨a, o, vs, t, hq0.1, k _ _ hq0.2.1, hq0.2.2⟩
theorem map_fst_zip {α β : Type} : ∀ {l : List α} {r : List β}, r.length = l.length → (l.zip r).map (·.1) = l
  | [], _, _ => rfl
  | _ :: _, [], h => by simp at h
  | a :: l, b :: r, h => by simp [map_fst_zip (l := l) (r := r) (by simpa using h)]

theorem fn_enter (G : Ground C σ s) (hW : C.W.Ok) (hh : C.A.handled = none) (hdep : C.A.depth < recursionLimit) (hu : C.A.units + 203 < cLine) {F : Fn} (hF : agFn P F = true) {a : Addr} {o : Obj} {pm code doc : Value} (ho : s.heap.get? a = some o)
    (hd : o.data = .func (docDef F.d.name F.d.params F.d.body F.d.scope pm code doc)) (hcd : s.heap.CodeRec code F.d.name) {vs : List Value} {xs : List V} (rs : Reals s.heap (C.D σ) vs xs) (hlen : xs.length = F.d.params.args.length)
    (lnk : ∀ env, Lnk C.W (C.A.deeper env) P Φ Gc) {Q : Post} (hw : swps Φ Gc F.ms (fun σ' _ => Q .none σ') Q σ (argLs xs)) :
    wpAny (model C.W.prog C.W.w) C.A (call (.ref a) vs) (fun v s' => ∃ env ls' σ' x, Good (C.call env F.vars) σ' ls' s' ∧ Step (C.call env F.vars).own s.heap σ s'.heap σ' ∧ (∀ b, (C.call env F.vars).own b → s.heap.objs.size ≤ b) ∧ Real s'.heap ((C.call env F.vars).D σ') v x ∧ Q x σ') (fun _ _ => False) s := by
  dsimp only [agFn] at hF
  simp only [Bool.and_eq_true, decide_eq_true_eq, beq_iff_eq, Bool.not_eq_true', List.all_eq_true, Bool.or_eq_true, bne_iff_ne, Prod.forall] at hF
  obtain ⟨⟨⟨⟨⟨⟨⟨⟨f1, f2⟩, f3⟩, f4⟩, f5⟩, f6⟩, f7⟩, f8⟩, f9⟩ := hF
  have hvl : vs.length = F.d.params.args.length := (Eq.trans rs.length hlen)
  have hpn : (F.d.params.args.map (·.arg)).Nodup := (f3 ▸ (List.Nodup.sublist (List.take_sublist _ _) f2))
  have hbind := bind_simple (name := F.d.name) (body := F.d.body) (scope := F.d.scope) (pm := pm) (code := code) (doc := doc) f1 hpn hvl
  have hkinds : ∀ x ∈ (F.d.params.args.map (·.arg)).zip vs, F.d.scope.names.lookup x.1 = some .local ∨ (F.d.scope.names.lookup x.1 = some .cell ∧ ((cellsFrom (s.heap.objs.size + 1) F.d.scope.names []).lookup x.1).isSome = true) := by
    intro x hx
    have hx1 : x.1 ∈ F.d.params.args.map (·.arg) := (List.of_mem_zip (a := x.1) (b := x.2) hx).1
    obtain ⟨ar, hq3⟩ := List.mem_map.mp hx1
    rcases f8 ar hq3.1 with h | h
    · left; rw [← hq3.2]; exact h
    · right
      refine ⟨by rw [← hq3.2]; exact h, cellsFrom_some _ _ _ _ (.inl (mem_of_lookup (by rw [← hq3.2]; exact h)))⟩
  refine wpAny_call (codeAny_call_cells hdep ho hd (hW.top.nolimit.keeps G.stays) hcd rfl hbind rfl hkinds (fun s₁ X => ?_) f5 f6 f4)
  generalize hfd : docDef F.d.name F.d.params F.d.body F.d.scope pm code doc = fd at X ⊢
  generalize henv : callEnvC fd s.heap.objs.size a = env at X ⊢
  have eL : env.locals = s.heap.objs.size := by rw [← henv]; rfl
  have eN : env.scope.names = F.d.scope.names := by rw [← henv, ← hfd]; rfl
  have eK : env.scope.kind = .function := (henv ▸ hfd ▸ f4)
  have eG : env.globals = mainGlobals := by rw [← henv, ← hfd]; rfl
  have eB : env.builtins = builtinsNs := by rw [← henv, ← hfd]; rfl
  have eC : env.cells = cellsFrom (s.heap.objs.size + 1) F.d.scope.names [] := by rw [← henv, ← hfd]; rfl
  have eBody : F.d.body = F.d.body := rfl
  obtain ⟨IC, hcell, hapart, habove⟩ := X
  obtain ⟨⟨h₁, tk, es⟩, hns, hkeep, hfr⟩ := IC
  subst es
  have hkeep' : ∀ b o, s.heap.get? b = some o → h₁.get? b = some o := hkeep
  have hns' : h₁.Ns env.locals _ := hns
  have hzz : s.heap.objs.size ≤ h₁.objs.size := by have := hns'.lt; rw [eL] at this; exact Nat.le_of_lt this
  have cellAb : ∀ n c, env.cells.lookup n = some c → s.heap.objs.size < c := fun n c e => by have := habove n c (mem_of_lookup e); rw [eL] at this; exact this
  have hnew : ∀ b, (C.call env F.vars).own b → s.heap.objs.size ≤ b ∧ ∃ o, h₁.get? b = some o := by
    rintro b (rfl | ⟨n, e⟩)
    · refine Exists.elim hns' fun o hx => ?_; obtain ⟨_, _, hq2⟩ := hx
      exact ⟨Nat.le_of_eq eL.symm, o, hq2.1⟩
    · refine Exists.elim (hcell n b e) ?_; rintro o hq1
      exact ⟨Nat.le_of_lt (cellAb n b e), o, hq1.1⟩
  have hN : ∀ b, (C.call env F.vars).own b ∨ (C.call env F.vars).B b → (C.own b ∨ C.B b) ∨ (s.heap.objs.size ≤ b ∧ ∃ o, h₁.get? b = some o) := fun b h => h.elim (fun h => .inr (hnew b h)) .inl
  have hdis : ∀ b, (C.call env F.vars).own b → ¬ (C.call env F.vars).B b := fun b h hb => absurd (G.lt (.inr hb)) (Nat.not_lt.mpr (hnew b h).1)
  have Gr : Ground (C.call env F.vars) σ { s with heap := h₁, toks := tk } := G.enter rfl hkeep' hzz hN hdis
  have hks : ∀ x, (C.call env F.vars).env.kindOf x = F.d.scope.names.lookup x := fun x => by show env.scope.names.lookup x = _; rw [eN]
  have L : Leaves s.heap (C.D σ) h₁ ((C.call env F.vars).D σ) := fun b o e hd => by
    refine ⟨hkeep' b o e, ?_⟩
    rintro (h | h)
    · exact hd (.inl h)
    · rcases hN b h with h | h
      · exact hd (.inr h)
      · exact absurd (Heap.lt_size e) (Nat.not_lt.mpr h.1)
  have zl : ((F.d.params.args.map (·.arg)).zip vs).map (·.1) = F.d.params.args.map (·.arg) := map_fst_zip (by simpa using hvl)
  have Fr : FrOK (C.call env F.vars) σ (argLs xs) h₁ := by
    refine ⟨eK, eG, eB, ⟨_, hns'⟩, .inl rfl, fun x c e => ⟨.inl (.inr ⟨x, e⟩), ?_, ⟨_, hcell x c e⟩⟩, fun x y c e1 e2 => name_of_addr hapart (mem_of_lookup e1) (mem_of_lookup e2), fun i x d e1 e2 e3 => ?_, f2, fun x hx => ?_⟩
    · exact fun q => absurd (cellAb x c e) (Nat.not_lt.mpr (Nat.le_of_eq ((eL ▸ q))))
    · have e3' : xs[i]? = some d := e3
      refine Exists.elim (rs.get e3') ?_; rintro v hq0
      have hi : i < F.d.params.args.length := (hlen ▸ ((List.getElem?_eq_some_iff.mp e3').1))
      have hx : (F.d.params.args.map (·.arg))[i]? = some x := by rw [← f3, List.getElem?_take_of_lt hi]; exact e1
      have hlk := zip_lookup (by simpa using hvl) hpn i x v hx hq0.1
      refine ⟨v, ?_, hq0.2.leaves L⟩
      by_cases q : env.kindOf x = some .local
      · exact .inl ⟨q, _, hns', bindL_at _ _ _ x v (by rw [zl]; exact hpn) hlk q⟩
      · have hc : env.kindOf x = some .cell := by
          rcases e2 with e2 | e2 | e2
          · exact absurd e2 q
          · exact e2
          · rw [hks] at e2
            exact absurd rfl (f7 x _ (mem_of_lookup e2)).1
        have hsome : (env.cells.lookup x).isSome = true := by
          rw [eC]; exact cellsFrom_some _ _ _ _ (.inl (mem_of_lookup (by have := hks x; rw [show (C.call env F.vars).env.kindOf x = env.kindOf x from rfl, hc] at this; exact this.symm)))
        obtain ⟨c, hc'⟩ := Option.isSome_iff_exists.mp hsome
        refine .inr ⟨.inl hc, c, hc', ?_⟩
        have := hcell x c hc'
        simp only [bindC_at _ _ _ x v (by rw [zl]; exact hpn) hlk q] at this
        exact this
    · rcases hx with hx | hx
      · rw [hks] at hx
        have : (env.cells.lookup x).isSome = true := by rw [eC]; exact cellsFrom_some _ _ _ _ (.inl (mem_of_lookup hx))
        exact Option.isSome_iff_exists.mp this
      · rw [hks] at hx
        exact absurd rfl (f7 x _ (mem_of_lookup hx)).1
  have T : SitS (C.call env F.vars) ⟨F.d.scope.names, F.vars⟩ P Φ Gc :=
    ⟨⟨⟨hW, hh, by skip; assumption⟩, ⟨eN, rfl⟩, lnk env⟩, fun x c e => .inr ⟨x, e⟩⟩
  have body := snd_ss F.ms T f9 ⟨Gr, Fr⟩ hw
  refine wpAny_mono body (?_) fun _ _ x => x.elim
  rintro f s' ⟨σ', S', hf⟩
  have S₀ : Step (C.call env F.vars).own s.heap σ s'.heap σ' := ⟨fun b o e hr ho => S'.keep b o (hkeep' b o e) hr ho, Nat.le_trans hzz S'.size, fun b h1 h2 => Nat.le_trans hzz (S'.grow b h1 h2), fun b c hb e hr => S'.ro b c (Nat.lt_of_lt_of_le hb hzz) e hr⟩
  cases f with
  | next =>
    obtain ⟨ls', G', q⟩ := hf
    exact ⟨env, ls', σ', .none, G', S₀, fun b h => (hnew b h).1, .none, q⟩
  | ret v =>
    obtain ⟨ls', x, G', r, q⟩ := hf
    exact ⟨env, ls', σ', x, G', S₀, fun b h => (hnew b h).1, r, q⟩
  | _ => exact hf.elim

theorem fn_call (G : Good C σ ls s) (hW : C.W.Ok) (hh : C.A.handled = none) (hdep : C.A.depth < recursionLimit) (hu : C.A.units + 203 < cLine) {F : Fn} (hF : agFn P F = true) {a : Addr} {o : Obj} {pm code doc : Value} (ho : s.heap.get? a = some o)
    (hd : o.data = .func (docDef F.d.name F.d.params F.d.body F.d.scope pm code doc)) (hcd : s.heap.CodeRec code F.d.name) {vs : List Value} {xs : List V} (rs : Reals s.heap (C.D σ) vs xs) (hlen : xs.length = F.d.params.args.length)
    (lnk : ∀ env, Lnk C.W (C.A.deeper env) P Φ Gc) {Q : Post} (hw : swps Φ Gc F.ms (fun σ' _ => Q .none σ') Q σ (argLs xs)) : TrE C ls (call (.ref a) vs) (RV C Q) σ s := by
  refine wpAny_mono (fn_enter G.toGround hW hh hdep hu hF ho hd hcd rs hlen lnk hw) (?_) fun _ _ x => x
  rintro v s' ⟨env, ls', σ', x, G', S', hn, r, q⟩
  have hq0 := G.leave (τ := σ') (h₄ := s'.heap) (tk := s'.toks) (N := (C.call env F.vars).own) (C' := C.call env F.vars) rfl (fun b h => h) (fun b h => ⟨hn b h, .inl h⟩) G'.toGround S' (fun b o _ e => e) (Nat.le_refl _) (fun b h => .inl h) (fun b c e => e)
    (fun _ b c e hb => by have := G'.apart b (.inl hb); replace this := e ▸ this; exact nn (Eq.symm this))
  exact ⟨σ', hq0.1, hq0.2.1, x, r.leaves hq0.2.2, q⟩

/-! a table of functions, each calling those ahead of it -/
structure Tab where
  fns : List Fn
  gcs : List Str
noncomputable def Tab.pg (t : Tab) : Pg := ⟨t.fns.map (·.d.name), t.gcs⟩
noncomputable def below (Φ : Spec) (n : Nat) : Spec := fun f xs Q σ => f < n ∧ Φ f xs Q σ

structure Tab.Ok (t : Tab) (W : Wd) (Φ : Spec) (Gc : Nat → V) : Prop where
  w : W.Ok
  blt : Blt W
  mem : ∀ F ∈ t.fns, F.d ∈ recsOf W.q
  ag : ∀ F ∈ t.fns, agFn t.pg F = true
  mono : SpecMono Φ
  gc : ∀ k x, t.gcs[k]? = some x → ∃ v, W.mg x = some v ∧ ∀ h D, Real h D v (Gc k)
  spec : ∀ f F, t.fns[f]? = some F → ∀ xs Q σ, Φ f xs Q σ → xs.length = F.d.params.args.length ∧ swps (below Φ f) Gc F.ms (fun σ' _ => Q .none σ') Q σ (argLs xs)

theorem Tab.Ok.lnk {t : Tab} {W : Wd} (O : t.Ok W Φ Gc) : ∀ (n : Nat) (A : Around), A.handled = none → A.depth + n < recursionLimit → A.units + 3 * n + 203 < cLine → Lnk W A t.pg (below Φ n) Gc
  | n, A, hh, hd, hu => by
    have addr : ∀ (f : Nat) (g : Str), t.pg.fns[f]? = some g → ∃ (F : Fn) (a : Addr) (o : Obj) (pm code doc : Value), t.fns[f]? = some F ∧ F.d.name = g ∧ W.mg g = some (.ref a) ∧ W.s₀.heap.get? a = some o ∧ o.data = .func (docDef F.d.name F.d.params F.d.body F.d.scope pm code doc) ∧ W.s₀.heap.CodeRec code F.d.name := by
      intro f g hf
      simp only [Tab.pg, List.getElem?_map, Option.map_eq_some_iff] at hf
      obtain ⟨F, hF, rfl⟩ := hf
      obtain ⟨a, o, pm, code, doc, hq1⟩ := O.w.top.fn F.d (O.mem F (List.mem_iff_getElem?.mpr ⟨f, hF⟩))
      exact ⟨F, a, o, pm, code, doc, hF, rfl, hq1.1, hq1.2.1, hq1.2.2.1, hq1.2.2.2⟩
    refine ⟨fun f g hf => ?_, O.gc, O.blt, fun f vs Q Q' σ h k => ⟨h.1, O.mono f vs Q Q' σ h.2 k⟩⟩
    refine Exists.elim (addr f g hf) fun F hx => ?_; obtain ⟨a, o, pm, code, doc, hq0⟩ := hx
    refine ⟨a, o, _, hq0.2.2.1, hq0.2.2.2.1, hq0.2.2.2.2.1, fun C ls σ s vs xs Q eW eA G rs hφ => ?_⟩
    subst eW eA
    obtain ⟨hlt, hφ⟩ := hφ
    cases n with
    | zero => exact absurd hlt (Nat.not_lt_zero _)
    | succ n =>
      obtain ⟨hl, hw⟩ := O.spec f F hq0.1 xs Q σ hφ
      have hle : f ≤ n := Nat.lt_succ_iff.mp hlt
      refine fn_call (P := t.pg) (Φ := below Φ f) (Gc := Gc) G O.w hh (by (first | lia | omega)) (by (first | lia | omega)) (O.ag F (List.mem_iff_getElem?.mpr ⟨f, hq0.1⟩)) (G.stays _ _ hq0.2.2.2.1) hq0.2.2.2.2.1 (codeRec_keeps hq0.2.2.2.2.2 G.stays) rs hl (fun env => ?_) hw
      exact Tab.Ok.lnk O f (C.A.deeper env) hh (by show C.A.depth + 1 + f < _; (first | lia | omega)) (by show C.A.units + 3 + 3 * f + 203 < _; (first | lia | omega))
  termination_by n => n
end
end Mine
end

section

open PySem PySem.W PySem.Calls PyProof.Rows
set_option linter.unusedVariables false
namespace Mine

theorem ints_of_items {R : WRecords} : ∀ {xs : List WData}, WShape.hasItems R xs .int = true → ∃ ks : List Int, xs = ks.map .int
  | [], _ => ⟨[], rfl⟩
  | x :: xs, h => by
    simp only [WShape.hasItems, Bool.and_eq_true] at h
    obtain ⟨ks, rfl⟩ := ints_of_items h.2
    refine Exists.elim (hasW_int h.1) fun i hx => ?_; obtain rfl := hx
    exact ⟨i :: ks, rfl⟩
theorem weight_bits : ∀ {ks : List Int} {n : Nat}, WData.weightAll (ks.map .int) ≤ n → ∀ k ∈ ks, Builtin.Int.intBits k ≤ n
  | [], _, _, k, hk => nomatch hk
  | i :: ks, n, h, k, hk => by
    simp only [List.map_cons, WData.weightAll, WData.weight] at h
    rcases List.mem_cons.mp hk with rfl | hk
    · unfold Builtin.Int.intBits; (first | lia | omega)
    · exact weight_bits (ks := ks) (n := n) (by (first | lia | omega)) k hk

theorem pre_ints {l : OpenLaw} (hm : l.most = some 63) (hb : l.bound = none) {args : List WData} (h : l.row.toRowW.claim.pre args = true) (hlay : WData.layableAll args = true) :
    ∃ ks : List Int, args = [.list (ks.map .int)] ∧ ks.length ≤ 63 ∧ ∀ k ∈ ks, Builtin.Int.intBits k ≤ 2 ^ 20 := by
  have hq0 := pre_splitW h
  refine Exists.elim (hasAllW_cons (show WShape.hasAll _ args (WShape.list .int :: []) = true from hq0.1)) fun d hx => ?_; obtain ⟨r, rfl, hd, hr⟩ := hx
  have := hasAllW_nil hr
  subst this
  refine Exists.elim (hasW_list hd) fun xs hx => ?_; obtain ⟨rfl, hi⟩ := hx
  refine Exists.elim (ints_of_items hi) fun ks hx => ?_; obtain rfl := hx
  refine ⟨ks, rfl, ?_, ?_⟩
  · have h3 : l.pre.holds [] { args := [.list (ks.map .int)] } = true := hq0.2
    unfold OpenLaw.pre at h3
    simp only [hm, hb] at h3
    have hv : WTm.value [] (WTm.and (.not (.lt (.lit (.int (63 : Nat))) (.len (.arg 0)))) (.lit (.bool true))) { args := [.list (ks.map .int)] } = some (.bool (!decide ((63 : Int) < ks.length))) := by
      simp [WTm.value, less?, Num.less?]
      by_cases q : (63 : Int) < ks.length <;> simp [q]
    unfold WTm.holds at h3
    rw [hv] at h3
    by_cases q : (63 : Int) < ks.length
    · simp [q] at h3
    · (first | lia | omega)
  · simp only [WData.layableAll, List.all_cons, List.all_nil, Bool.and_true, WData.layable, Bool.and_eq_true, WData.weight] at hlay
    exact weight_bits (of_decide_eq_true hlay.2)

/-- at the top: the law's call -/
noncomputable def Cx.top (W : Wd) : Cx := { W := W, A := callerA, env := default, vars := [], own := fun _ => False, B := fun _ => False }
theorem top_ground (W : Wd) : Ground (Cx.top W) (fun _ => none) W.s₀ := by
  refine ⟨fun _ _ e => e, ⟨rfl, rfl, rfl⟩, fun a h => ?_, Nat.le_refl _, fun _ _ e => ?_, fun _ _ => rfl, fun _ h => False.elim h, fun _ h => ?_⟩
  · rcases h with h | h | h
    · exact absurd rfl h
    · exact False.elim h
    · exact False.elim h
  · exact nn e
  · rcases h with h | h
    · exact False.elim h
    · exact False.elim h

theorem well_ints {P : Params} {h : Heap} {D : Addr → Prop} : ∀ {vs : List Value} {ks : List Int}, WellAll P h vs (ks.map .int) → Reals h D vs (ks.map .int)
  | [], [], _ => .nil
  | _ :: _, [], w => by cases w
  | [], _ :: _, w => by cases w
  | v :: vs, k :: ks, w => by
    cases w with
    | cons a b => cases a; exact .cons (.int _ _) (well_ints b)

theorem post_true (l : OpenLaw) (args : List WData) : l.row.toRowW.claim.post args (.bool true) args = true := by
  simp [RowW.claim, OpenLaw.row, WTm.holds, WTm.value, WShape.has, WShape.arms, same]
/-- the law's walk, from its table -/
theorem law_walk {l : OpenLaw} (hm : l.most = some 63) (hb : l.bound = none) {q : Program} {loose : List Str} {XP : (Str → Option Value) → Heap → Prop} {YP : World → Heap → Prop} {d : DefRec} (t : Tab) (Φ : Spec) (Gc : Nat → V) (n : Nat) (F : Fn) (hF : t.fns[n]? = some F) (hd : F.d = d)
    (hn : n < 100) (hargs : d.params.args.length = 1) (hag : ∀ F ∈ t.fns, agFn t.pg F = true) (hmem : ∀ F ∈ t.fns, F.d ∈ recsOf q) (hmono : SpecMono Φ)
    (hblt : ∀ n ∈ blts, Str.ofString n ∉ startupNames ∧ Str.ofString n ∉ looseW q loose ∧ Str.ofString n ∉ (recsOf q).map (·.name) ∧ Str.ofString n ∉ (litsOf q).map (·.1) ∧ Str.ofString n ∉ (clssOf q (looseW q loose)).map (·.name))
    (hgc : ∀ k x, t.gcs[k]? = some x → ∃ c, valOf q x = some c ∧ ∀ h v D, Reads h v c [] → Real h D v (Gc k))
    (hspec : ∀ f F, t.fns[f]? = some F → ∀ xs Q σ, Φ f xs Q σ → xs.length = F.d.params.args.length ∧ swps (below Φ f) Gc F.ms (fun σ' _ => Q .none σ') Q σ (argLs xs))
    (hlaw : ∀ ks : List Int, ks.length ≤ 63 → (∀ k ∈ ks, Builtin.Int.intBits k ≤ 2 ^ 20) → swps (below Φ n) Gc F.ms (fun _ _ => V.none = .bool true) (fun d _ => d = .bool true) (fun _ => none) (argLs [.lst (ks.map .int)])) :
    WalkO q loose XP YP l.row.toRowW d [] (fun f vs => call f vs) := by
  intro w s₀ s₁ mg mb G Y a o pm cd doc dV kV ho hdat hcd hD hmg hg args vals as hpre hlay hrd hwl hlo
  obtain ⟨ks, rfl, hlen, hbits⟩ := pre_ints hm hb hpre hlay
  have hdV : dV = .none ∧ kV = .none := by
    refine ⟨hD.none ?_, hD.noKw⟩
    have := hag F (List.mem_iff_getElem?.mpr ⟨n, hF⟩)
    unfold agFn simpleP at this
    simp only [Bool.and_eq_true, List.isEmpty_iff] at this
    rw [← hd]
    exact this.1.1.1.1.1.1.1.1.2
  obtain ⟨rfl, rfl⟩ := hdV
  cases hwl with
  | cons hw1 hw2 =>
    cases hw2
    cases hw1 with
    | list hl hws =>
      rename_i la vs
      have O : t.Ok ⟨l.prog, w, q, looseW q loose, ExcName.means s₀.heap, s₁, mg, mb⟩ Φ Gc := by
        refine ⟨⟨G.T⟩, fun n hn => ?_, hmem, hag, hmono, fun k x hk => ?_, hspec⟩
        · obtain ⟨h1, h2, h3, h4, h5⟩ := hblt n hn
          exact G.T.free _ h1 h2 h3 h4 h5
        · obtain ⟨c, hc, hr⟩ := hgc k x hk
          obtain ⟨v, hv, hrd⟩ := G.T.const x c hc
          exact ⟨v, hv, fun h D => hr h v D (hrd h)⟩
      have lnk : ∀ env, Lnk (Cx.top ⟨l.prog, w, q, looseW q loose, ExcName.means s₀.heap, s₁, mg, mb⟩).W ((Cx.top ⟨l.prog, w, q, looseW q loose, ExcName.means s₀.heap, s₁, mg, mb⟩).A.deeper env) t.pg (below Φ n) Gc :=
        fun env => O.lnk n _ rfl (by show 1 + claimMargin + 1 + n < recursionLimit; unfold claimMargin recursionLimit; (first | lia | omega)) (by show 4 + 3 + 3 * n + 203 < cLine; unfold cLine; (first | lia | omega))
      subst hd
      have key := fn_enter (C := Cx.top ⟨l.prog, w, q, looseW q loose, ExcName.means s₀.heap, s₁, mg, mb⟩) (P := t.pg) (Φ := below Φ n) (Gc := Gc) (Q := fun d _ => d = .bool true) (xs := [.lst (ks.map .int)]) (vs := [.ref la]) (top_ground _) O.w rfl (by show 1 + claimMargin < recursionLimit; decide) (by show 4 + 203 < cLine; decide) (hag F (List.mem_iff_getElem?.mpr ⟨n, hF⟩)) ho hdat hcd
        (.cons (.lst hl ?_ (fun h => ?_) (by simpa using well_ints hws)) .nil) (by simpa using hargs.symm) lnk ?_
      · refine wpAny_mono key (fun v s' ⟨env, ls', σ', x, G', S', hnew, r, hx⟩ => GoodW.toG ?_) fun _ _ x => x.elim
        subst hx
        cases r
        refine ⟨.inl ⟨.bool true, .bool true, [], rfl, fun _ => rfl, .bool true, ?_, fun _ => ⟨List.nodup_nil, fun _ h => nomatch h⟩⟩, G'.stays, G'.same.2.2, ?_⟩
        · exact post_true l _
        · rw [G'.same.1]; exact hg
      · have := (well_ints (D := fun _ => False) hws).length
        simp at this ⊢; (first | lia | omega)
      · rcases h with h | h | h
        · exact h rfl
        · exact h
        · exact h
      · exact hlaw ks hlen hbits
end Mine
end

section

open PySem PySem.W PySem.Calls PyProof.Rows
namespace Mine
/-! helpers for conditions -/
theorem mulFits_right {a b : Int} (h1 : -(2 ^ 63) ≤ b) (h2 : b < 2 ^ 63) : mulFits a b = true := by
  unfold mulFits
  have := intBits_le_64 (k := b) (by (first | lia | omega)) (by (first | lia | omega))
  simp [shortFactorBits, this, Nat.not_lt.mpr this]
theorem idxOf_nat {n m : Nat} (h : n < m) : idxOf (n : Int) m = some n := by unfold idxOf; simp; assumption
theorem idxOf_pos {i : Int} {m : Nat} (h0 : 0 ≤ i) (h : i < m) : idxOf i m = some i.toNat := by unfold idxOf; simp [h0, h]
theorem smallI_of {i : Int} (h1 : -(2 ^ 62) < i) (h2 : i < 2 ^ 62) : smallI i = true := by unfold smallI; skip; (first | lia | omega)
theorem rangeL_nat (n : Nat) : rangeL 0 (n : Int) 1 = (List.range n).map Int.ofNat := by
  unfold rangeL; simp
theorem rangeL_0 {n : Int} (h : 0 ≤ n) : rangeL 0 n 1 = (List.range n.toNat).map Int.ofNat := by
  have := rangeL_nat n.toNat
  rwa [Int.toNat_of_nonneg h] at this
theorem itXs_range {σ : View} {n : Int} (h : 0 ≤ n) (h2 : n < 2 ^ 62) : itXs 1 σ [.int n] = some ((List.range n.toNat).map fun k => V.int (k : Nat)) := by
  show (if smallI n = true then some ((rangeL 0 n 1).map V.int) else none) = _
  rw [if_pos (smallI_of (by (first | lia | omega) : -(2 ^ 62) < n) h2), rangeL_0 h, List.map_map]
  rfl
theorem range_get {n k : Nat} {v : V} (h : ((List.range n).map fun k => V.int (k : Nat))[k]? = some v) : k < n ∧ v = .int k := by
  simp only [List.getElem?_map, Option.map_eq_some_iff] at h
  refine Exists.elim h fun a hx => ?_; obtain ⟨h1, h2⟩ := hx
  have hk : k < n := by
    have := (List.getElem?_eq_some_iff.mp h1).1
    simpa using this
  cases Eq.trans (Eq.symm (List.getElem?_range hk)) h1
  exact ⟨hk, h2.symm⟩
end Mine
end

section

open PySem PyProof.Rows
set_option linter.unusedVariables false
namespace Mine
section
variable {Φ : Spec} {G : Nat → V}
noncomputable def MonS (Φ : Spec) (G : Nat → V) (m : MS) : Prop := ∀ {Q Q' : View → Ls → Prop} {R R' : Post} {σ : View} {ls : Ls}, swp Φ G m Q R σ ls → (∀ σ' ls', Q σ' ls' → Q' σ' ls') → (∀ d σ', R d σ' → R' d σ') → swp Φ G m Q' R' σ ls
noncomputable def MonSs (Φ : Spec) (G : Nat → V) (ms : MSs) : Prop := ∀ {Q Q' : View → Ls → Prop} {R R' : Post} {σ : View} {ls : Ls}, swps Φ G ms Q R σ ls → (∀ σ' ls', Q σ' ls' → Q' σ' ls') → (∀ d σ', R d σ' → R' d σ') → swps Φ G ms Q' R' σ ls
theorem ms_set (hΦ : SpecMono Φ) {o j e : ME} : MonS Φ G (.setSub o j e) := fun h k k' => ewp_mono hΦ e h fun d σ₁ h1 => ewp_mono hΦ o h1 fun x σ₂ h2 => ewp_mono hΦ j h2 fun y σ₃ h => by
  refine Exists.elim h fun a hx => ?_; obtain ⟨j, es, hq0⟩ := hx; exact ⟨a, j, es, hq0.1, hq0.2.1, hq0.2.2.1, hq0.2.2.2.1, k _ _ hq0.2.2.2.2⟩
theorem ms_ite (hΦ : SpecMono Φ) {t : ME} {a b : MSs} (iha : MonSs Φ G a) (ihb : MonSs Φ G b) : MonS Φ G (.ite t a b) := fun h k k' => ewp_mono hΦ t h fun d σ' h => by
  obtain ⟨c, hq0⟩ := h
  refine ⟨c, hq0.1, ?_⟩
  cases c with
  | true => exact iha hq0.2 k k'
  | false => exact ihb hq0.2 k k'
theorem ms_loop (hΦ : SpecMono Φ) {t : ME} {b : MSs} (ihb : MonSs Φ G b) : MonS Φ G (.loop t b) := fun h k k' => by
  refine Exists.elim h ?_; rintro I hq1
  refine ⟨I, hq1.1, fun n σ₁ ls₁ hI => ewp_mono hΦ t (hq1.2 n σ₁ ls₁ hI) fun d σ' h => ?_⟩
  obtain ⟨c, hq0⟩ := h
  refine ⟨c, hq0.1, ?_⟩
  cases c with
  | true => exact ihb hq0.2 (fun _ _ x => x) k'
  | false => exact k _ _ hq0.2
theorem ms_for (hΦ : SpecMono Φ) {i : Tg} {it : MI} {b : MSs} (ihb : MonSs Φ G b) : MonS Φ G (.for1 i it b) := fun h k k' => ewpI_mono hΦ it h fun xs u σ₁ h => by
  refine Exists.elim h ?_; rintro I hq0
  exact ⟨I, hq0.1, fun j v σ₂ ls₂ hv hI => ihb (hq0.2.1 j v σ₂ ls₂ hv hI) (fun _ _ x => x) fun d σ' x => k' _ _ x, fun σ₂ ls₂ hI => k _ _ (hq0.2.2 σ₂ ls₂ hI)⟩
theorem ms_frz {i : Nat} : MonS Φ G (.freeze i) := fun h k k' => by
  refine Exists.elim h fun a hx => ?_; obtain ⟨e, ⟨xs, e1, q⟩ | ⟨xs, e1, q⟩⟩ := hx
  · exact ⟨a, e, .inl ⟨xs, e1, k _ _ q⟩⟩
  · exact ⟨a, e, .inr ⟨xs, e1, k _ _ q⟩⟩
mutual
theorem mon_s (hΦ : SpecMono Φ) : ∀ m : MS, MonS Φ G m
  | .assign _ e => fun h k _ => ewp_mono hΦ e h fun d σ' h' => k _ _ h'
  | .setSub _ _ _ => ms_set hΦ
  | .expr e => fun h k _ => ewp_mono hΦ e h fun d σ' h' => k _ _ h'
  | .ite _ a b => ms_ite hΦ (mon_ss hΦ a) (mon_ss hΦ b)
  | .loop _ b => ms_loop hΦ (mon_ss hΦ b)
  | .for1 _ _ b => ms_for hΦ (mon_ss hΦ b)
  | .ret e => fun h _ k' => ewp_mono hΦ e h k'
  | .freeze _ => ms_frz
theorem mon_ss (hΦ : SpecMono Φ) : ∀ ms : MSs, MonSs Φ G ms
  | .nil => fun h k _ => k _ _ h
  | .cons s r => fun h k k' => mon_s hΦ s h (fun σ' ls' h' => mon_ss hΦ r h' k k') k'
end
theorem swp_mono (hΦ : SpecMono Φ) (m : MS) {Q Q' : View → Ls → Prop} {R R' : Post} {σ : View} {ls : Ls} (h : swp Φ G m Q R σ ls) (k : ∀ σ' ls', Q σ' ls' → Q' σ' ls') (k' : ∀ d σ', R d σ' → R' d σ') : swp Φ G m Q' R' σ ls := mon_s hΦ m h k k'
theorem swps_mono (hΦ : SpecMono Φ) (ms : MSs) {Q Q' : View → Ls → Prop} {R R' : Post} {σ : View} {ls : Ls} (h : swps Φ G ms Q R σ ls) (k : ∀ σ' ls', Q σ' ls' → Q' σ' ls') (k' : ∀ d σ', R d σ' → R' d σ') : swps Φ G ms Q' R' σ ls := mon_ss hΦ ms h k k'
theorem swps_cut (hΦ : SpecMono Φ) {s : MS} {r : MSs} {Q I : View → Ls → Prop} {R : Post} {σ : View} {ls : Ls} (h : swp Φ G s I R σ ls) (k : ∀ σ' ls', I σ' ls' → swps Φ G r Q R σ' ls') : swps Φ G (.cons s r) Q R σ ls :=
  swp_mono hΦ s h k fun _ _ x => x
theorem below_mono {Φ : Spec} (h : SpecMono Φ) (n : Nat) : SpecMono (below Φ n) := fun f vs Q Q' σ x k => ⟨x.1, h f vs Q Q' σ x.2 k⟩
end
end Mine
end

section

open PySem PyProof.Rows
set_option linter.unusedVariables false
set_option linter.unusedSimpArgs false
namespace Mine
/-! more helpers for conditions -/
inductive Dat : Nat → V → Prop
  | none {n : Nat} : Dat n .none
  | bool {n : Nat} (b : Bool) : Dat n (.bool b)
  | int {n : Nat} (i : Int) : Dat n (.int i)
  | str {n : Nat} (s : Str) : Dat n (.str s)
  | tup {n : Nat} {xs : List V} (h : ∀ x ∈ xs, Dat n x) : Dat (n + 1) (.tup xs)
  | lst {n : Nat} {xs : List V} (h : ∀ x ∈ xs, Dat n x) : Dat (n + 1) (.lst xs)
theorem mapM_some {σ : View} {n : Nat} {xs : List V} (h : ∀ x ∈ xs, ∃ a, V.toD σ n x = some a ∧ PyData.eqv a a = true) : ∃ as, xs.mapM (V.toD σ n) = some as ∧ PyData.eqvAll as as = true := by
  induction xs with
  | nil => exact ⟨[], rfl, rfl⟩
  | cons x xs ih =>
    refine Exists.elim (h x (List.mem_cons_self ..)) ?_; rintro a hq0
    obtain ⟨as, h3, h4⟩ := ih fun y hy => h y (List.mem_cons_of_mem _ hy)
    exact ⟨a :: as, by rw [List.mapM_cons, hq0.1, h3]; rfl, Bool.and_eq_true_iff.mpr ⟨hq0.2, h4⟩⟩
theorem Dat.toD {σ : View} {n : Nat} {v : V} (h : Dat n v) : ∃ a, V.toD σ n v = some a ∧ PyData.eqv a a = true := by
  induction h with
  | none => rename_i n; exact ⟨.none, by cases n <;> rfl, rfl⟩
  | bool b => rename_i n; exact ⟨.bool b, by cases n <;> rfl, beq_self_eq_true b⟩
  | int i => rename_i n; exact ⟨.int i, by cases n <;> rfl, beq_self_eq_true i⟩
  | str s => rename_i n; exact ⟨.str s, by cases n <;> rfl, beq_self_eq_true s⟩
  | tup h ih => obtain ⟨as, h1, h2⟩ := mapM_some ih; exact ⟨.tuple as, Option.map_eq_some_iff.mpr ⟨as, h1, rfl⟩, h2⟩
  | lst h ih => obtain ⟨as, h1, h2⟩ := mapM_some ih; exact ⟨.list as, Option.map_eq_some_iff.mpr ⟨as, h1, rfl⟩, h2⟩
end Mine
end

section

open PySem PyProof.Rows
set_option linter.unusedVariables false
set_option linter.unusedSimpArgs false
namespace Mine
section
variable {Φ : Spec} {G : Nat → V} {Q : View → Ls → Prop} {R : Post} {σ : View} {ls : Ls} {r : MSs}
theorem set_get {ls : Ls} {i j : Nat} {v : V} : (ls.set i v) j = if j = i then some v else ls j := rfl
theorem set_same {ls : Ls} {i : Nat} {v : V} (h : ls i = some v) : ls.set i v = ls := by
  funext j; simp only [set_get]; split
  · next e => simp only [e, h]
  · rfl
theorem set_set {ls : Ls} {i : Nat} {v w : V} : (ls.set i v).set i w = ls.set i w := by
  funext j; simp only [set_get]; split <;> rfl
theorem cut_assign (hM : SpecMono Φ) {i : Nat} {e : ME} (P : V → Prop) (h : ewp Φ G ls e (fun d σ' => σ' = σ ∧ P d) σ) (k : ∀ d, P d → swps Φ G r Q R σ (ls.set i d)) : swps Φ G (.cons (.assign i e) r) Q R σ ls :=
  ewp_mono hM e h fun d σ' h => h.1 ▸ k d h.2
theorem cut_if_assign (hM : SpecMono Φ) {i : Nat} {t e : ME} (P : V → Prop) (h : twp Φ G ls t (fun c σ' => σ' = σ ∧ if c then ewp Φ G ls e (fun d σ' => σ' = σ ∧ P d) σ else ∃ d, ls i = some d ∧ P d) σ) (k : ∀ d, P d → swps Φ G r Q R σ (ls.set i d)) : swps Φ G (.cons (.ite t (.cons (.assign i e) .nil) .nil) r) Q R σ ls := by
  refine ewp_mono hM t h fun d σ' h => ?_
  obtain ⟨b, h1, rfl, h2⟩ := h
  refine ⟨b, h1, ?_⟩
  cases b with
  | true => exact ewp_mono hM e h2 fun d σ' h => h.1 ▸ k d h.2
  | false =>
    obtain ⟨d, hq0⟩ := h2
    exact set_same hq0.1 ▸ k d hq0.2
theorem cut_guard (hM : SpecMono Φ) {t : ME} {a : MSs} (h : twp Φ G ls t (fun c σ' => σ' = σ ∧ c = false) σ) (k : swps Φ G r Q R σ ls) : swps Φ G (.cons (.ite t a .nil) r) Q R σ ls := by
  refine ewp_mono hM t h fun d σ' h => ?_
  obtain ⟨b, h1, rfl, rfl⟩ := h
  exact ⟨_, h1, k⟩
theorem cut_ite_ret (hM : SpecMono Φ) {t e : ME} {b : MSs} (h : twp Φ G ls t (fun c σ' => σ' = σ ∧ c = true) σ) (k : ewp Φ G ls e R σ) : swps Φ G (.cons (.ite t (.cons (.ret e) .nil) b) r) Q R σ ls := by
  refine ewp_mono hM t h fun d σ' h => ?_
  obtain ⟨b, h1, rfl, rfl⟩ := h
  exact ⟨_, h1, k⟩
theorem ewpIfs_mono (hM : SpecMono Φ) (ms : MEs) {ls : Ls} {Q Q' : Bool → View → Prop} {σ : View} (h : ewpIfs Φ G ls ms Q σ) (k : ∀ b σ', Q b σ' → Q' b σ') : ewpIfs Φ G ls ms Q' σ := by
  match ms with
  | .nil => exact k _ _ h
  | .cons e es =>
    refine ewp_mono hM e h fun d σ' h => ?_
    refine Exists.elim h ?_; rintro b hq0
    refine ⟨b, hq0.1, ?_⟩
    cases b with
    | true => exact ewpIfs_mono hM es hq0.2 k
    | false => exact k _ _ hq0.2
/-- a comprehension that keeps what p says and maps by f -/
theorem comp_fm (hM : SpecMono Φ) {elt : ME} {x : Nat} {ifs : MEs} {xs u : List V} {Q : Post} (p : V → Bool) (f : V → V) (hu : lockV σ u = σ) (hu2 : unlockV σ u σ = σ) (hx : xs.length ≤ big)
    (h : ∀ v ∈ xs, ewpIfs Φ G (ls.set x v) ifs (fun b σ₃ => σ₃ = σ ∧ b = p v ∧ (b = true → ewp Φ G (ls.set x v) elt (fun d σ₄ => σ₄ = σ ∧ d = f v) σ)) σ) (hQ : Q (.lst ((xs.filter p).map f)) σ) :
    xs.length ≤ big ∧ ∃ I : Nat → List V → View → Prop, I 0 [] (lockV σ u) ∧
      (∀ k v acc σ₂, xs[k]? = some v → I k acc σ₂ → ewpIfs Φ G (ls.set x v) ifs (fun b σ₃ => if b then ewp Φ G (ls.set x v) elt (fun d σ₄ => I (k + 1) (acc ++ [d]) σ₄) σ₃ else I (k + 1) acc σ₃) σ₂) ∧
      (∀ acc σ₂, I xs.length acc σ₂ → if false = true then ∀ a, unlockV σ u σ₂ a = none → Q (.ref a) ((unlockV σ u σ₂).upd a (.list false acc)) else Q (.lst acc) (unlockV σ u σ₂)) := by
  refine ⟨hx, fun k acc σ' => σ' = σ ∧ acc = ((xs.take k).filter p).map f, ⟨hu, by rfl⟩, ?_, ?_⟩
  · rintro k v acc σ₂ hv ⟨rfl, rfl⟩
    have ht : xs.take (k + 1) = xs.take k ++ [v] := by rw [List.take_add_one, hv]; rfl
    refine ewpIfs_mono hM ifs (h v (List.mem_iff_getElem?.mpr ⟨k, hv⟩)) ?_
    rintro b σ₃ ⟨e1, e2, h3⟩
    cases e1; subst e2
    cases q : p v with
    | true =>
      simp only [q, if_true] at h3 ⊢
      refine ewp_mono hM elt (h3 trivial) ?_
      rintro d σ₄ ⟨e3, e4⟩
      cases e3; subst e4
      exact ⟨rfl, by rw [ht, List.filter_append]; simp [List.filter, q]⟩
    | false =>
      simp only [Bool.false_eq_true, if_false]
      exact ⟨trivial, by rw [ht, List.filter_append]; simp [List.filter, q]⟩
  · rintro acc σ₂ ⟨rfl, rfl⟩
    simp only [Bool.false_eq_true, if_false, List.take_length, hu2]
    exact hQ
theorem comp_m (hM : SpecMono Φ) {elt : ME} {x : Nat} {xs u : List V} {Q : Post} (f : V → V) (hu : lockV σ u = σ) (hu2 : unlockV σ u σ = σ) (hx : xs.length ≤ big)
    (h : ∀ v ∈ xs, ewp Φ G (ls.set x v) elt (fun d σ₄ => σ₄ = σ ∧ d = f v) σ) (hQ : Q (.lst (xs.map f)) σ) :
    xs.length ≤ big ∧ ∃ I : Nat → List V → View → Prop, I 0 [] (lockV σ u) ∧
      (∀ k v acc σ₂, xs[k]? = some v → I k acc σ₂ → ewpIfs Φ G (ls.set x v) .nil (fun b σ₃ => if b then ewp Φ G (ls.set x v) elt (fun d σ₄ => I (k + 1) (acc ++ [d]) σ₄) σ₃ else I (k + 1) acc σ₃) σ₂) ∧
      (∀ acc σ₂, I xs.length acc σ₂ → if false = true then ∀ a, unlockV σ u σ₂ a = none → Q (.ref a) ((unlockV σ u σ₂).upd a (.list false acc)) else Q (.lst acc) (unlockV σ u σ₂)) := by
  have e : xs.filter (fun _ => true) = xs := by simp
  refine comp_fm hM (fun _ => true) f hu hu2 hx (fun v hv => ?_) (((Eq.symm e) ▸ hQ))
  exact ⟨rfl, rfl, fun _ => h v hv⟩
end
end Mine
end

section

open PySem PyProof.Rows
set_option linter.unusedVariables false
set_option linter.unusedSimpArgs false
namespace Mine
/-! what each operation asks, case by case -/
section
variable {Q : Post} {σ : View} {a b : Int} {x y : V} {s t : Str} {xs ys : List V}
theorem it_lst {Qi : List V → List V → View → Prop} : itWp 0 [.lst xs] Qi σ ↔ Qi xs [.lst xs] σ := ⟨fun hx => by obtain ⟨_, e, h⟩ := hx; exact Option.some.inj e ▸ h, fun h => ⟨_, rfl, h⟩⟩
theorem it_tup {Qi : List V → List V → View → Prop} : itWp 0 [.tup xs] Qi σ ↔ Qi xs [.tup xs] σ := ⟨fun hx => by obtain ⟨_, e, h⟩ := hx; exact Option.some.inj e ▸ h, fun h => ⟨_, rfl, h⟩⟩
theorem it_rng {Qi : List V → List V → View → Prop} (h : 0 ≤ a) (h2 : a < 2 ^ 62) : itWp 1 [.int a] Qi σ ↔ Qi ((List.range a.toNat).map fun k => V.int (k : Nat)) [.int a] σ := ⟨fun hx => by obtain ⟨_, e, h3⟩ := hx; exact by rw [itXs_range h h2] at e; exact Option.some.inj e ▸ h3, fun h3 => ⟨_, itXs_range h h2, h3⟩⟩
section
variable {Φ : Spec} {G : Nat → V} {ls : Ls}
theorem w_frz {e : ME} : ewp Φ G ls (.frz e) Q σ ↔ ewp Φ G ls e (fun d σ' => ∃ a, d = .ref a ∧ ((∃ xs, σ' a = some (.list false xs) ∧ Q (.lst xs) (σ'.del a)) ∨ (∃ es, σ' a = some (.dict false es) ∧ Q (.dct es) (σ'.del a)))) σ := Iff.rfl
theorem w_comp_m (hM : SpecMono Φ) {elt e : ME} {x : Nat} {xs : List V} (f : V → V) (he : ewp Φ G ls e (fun d σ' => σ' = σ ∧ (d = .lst xs ∨ d = .tup xs)) σ) (hx : xs.length ≤ big)
    (h : ∀ v ∈ xs, ewp Φ G (ls.set x v) elt (fun d σ₄ => σ₄ = σ ∧ d = f v) σ) (hQ : Q (.lst (xs.map f)) σ) : ewp Φ G ls (.comp false elt (.one x) (.seq e) .nil) Q σ := by
  refine ewp_mono (Q' := fun d σ' => itWp 0 [d] _ σ') hM e he ?_
  rintro d σ' ⟨e1, e2⟩
  subst e1
  rcases e2 with rfl | rfl
  · rw [it_lst]; exact comp_m hM f rfl rfl hx h hQ
  · rw [it_tup]; exact comp_m hM f rfl rfl hx h hQ
/-- a comprehension over range(n) -/
theorem w_comp_r (hM : SpecMono Φ) {elt e : ME} {x : Nat} {n : Nat} (f : Nat → V) (he : ewp Φ G ls e (fun d σ' => σ' = σ ∧ d = .int n) σ) (hx : n ≤ big)
    (h : ∀ j, j < n → ewp Φ G (ls.set x (.int (j : Nat))) elt (fun d σ₄ => σ₄ = σ ∧ d = f j) σ) (hQ : Q (.lst ((List.range n).map f)) σ) : ewp Φ G ls (.comp false elt (.one x) (.range (.cons e .nil)) .nil) Q σ := by
  refine ewp_mono (Q' := fun d σ' => itWp 1 [d] (fun xs u σ₁ => _) σ') hM e he ?_
  rintro d σ' ⟨e1, e2⟩
  subst e1; subst e2
  rw [it_rng (by (first | lia | omega)) (by unfold big at hx; (first | lia | omega))]
  refine comp_m hM (fun v => match v with | .int j => f j.toNat | _ => .none) rfl rfl (by simp; (first | lia | omega)) (fun v hv => ?_) ?_
  · simp only [List.mem_map] at hv
    obtain ⟨j, hj, rfl⟩ := hv
    simp at hj
    exact h j hj
  · simpa [Function.comp_def] using hQ
end
end
end Mine
end

section

open PySem PyProof.Rows
set_option linter.unusedVariables false
namespace Mine
/-! conditions that compute: what is asked of a value is asked by a match -/
noncomputable def opt {α : Type} (o : Option α) (k : α → Prop) : Prop := match o with
  | some a => k a
  | none => False
theorem opt_ex {α : Type} {o : Option α} {k : α → Prop} (h : opt o k) : ∃ a, o = some a ∧ k a := by
  cases o with
  | none => exact h.elim
  | some a => exact ⟨a, rfl, h⟩
theorem opt_if {α : Type} {p : Prop} [Decidable p] {a : α} {k : α → Prop} (h : p) (hk : k a) : opt (if p then some a else none) k := by rw [if_pos h]; exact hk
theorem opt_of {α : Type} {o : Option α} {a : α} {k : α → Prop} (h : o = some a) (hk : k a) : opt o k := by rw [h]; exact hk
theorem opt_map {α β : Type} {o : Option α} {f : α → β} {a : α} {k : β → Prop} (h : o = some a) (hk : k (f a)) : opt (o.map f) k := (h ▸ hk)
noncomputable def isEff : Op → Bool
  | .dict => true
  | .append => true
  | .extend => true
  | .popD => true
  | .mkListM => true
  | _ => false
noncomputable def cprim (o : Op) (vs : List V) (Q : Post) (σ : View) : Prop := match isEff o with
  | true => prim o vs Q σ
  | false => opt (pureOp o σ vs) fun d => Q d σ
theorem cprim_prim {o : Op} {vs : List V} {Q : Post} {σ : View} (h : cprim o vs Q σ) : prim o vs Q σ := by
  cases o <;> first | exact opt_ex h | exact h
section
variable (Φ : Spec) (G : Nat → V) (ls : Ls)
mutual
noncomputable def cwp : ME → Post → View → Prop
  | .var i, Q, σ => opt (ls i) fun d => Q d σ
  | .lit d, Q, σ => Q d σ
  | .gcon k, Q, σ => Q (G k) σ
  | .op o args, Q, σ => cwps args (fun vs σ' => cprim o vs Q σ') σ
  | .meth o obj args, Q, σ => cwp obj (fun x σ₁ => methOk o x σ₁ ∧ cwps args (fun vs σ₂ => cprim o (x :: vs) Q σ₂) σ₁) σ
  | .and es, Q, σ => cwpAnd es Q σ
  | .or es, Q, σ => cwpOr es Q σ
  | .not e, Q, σ => cwp e (fun d σ' => opt (truthV d) fun b => Q (.bool (!b)) σ') σ
  | .call f args, Q, σ => cwps args (fun vs σ' => Φ f vs Q σ') σ
  | e, Q, σ => ewp Φ G ls e Q σ
noncomputable def cwps : MEs → (List V → View → Prop) → View → Prop
  | .nil, Q, σ => Q [] σ
  | .cons e es, Q, σ => cwp e (fun v σ' => cwps es (fun vs σ'' => Q (v :: vs) σ'') σ') σ
noncomputable def cwpAnd : MEs → Post → View → Prop
  | .nil, _, _ => False
  | .cons e es, Q, σ => match es with
    | .nil => cwp e Q σ
    | .cons _ _ => cwp e (fun d σ' => opt (truthV d) fun b => match b with | true => cwpAnd es Q σ' | false => Q d σ') σ
noncomputable def cwpOr : MEs → Post → View → Prop
  | .nil, _, _ => False
  | .cons e es, Q, σ => match es with
    | .nil => cwp e Q σ
    | .cons _ _ => cwp e (fun d σ' => opt (truthV d) fun b => match b with | true => Q d σ' | false => cwpOr es Q σ') σ
end
end
section
variable {Φ : Spec} {G : Nat → V} {ls : Ls}
mutual
theorem cwp_e (hM : SpecMono Φ) : ∀ (m : ME) {Q : Post} {σ : View}, cwp Φ G ls m Q σ → ewp Φ G ls m Q σ
  | .var i, Q, σ, h => opt_ex h
  | .lit d, Q, σ, h => h
  | .gcon k, Q, σ, h => h
  | .op o args, Q, σ, h => ewps_mono (Q' := fun vs σ' => prim o vs Q σ') hM args (cwps_e hM args h) fun _ _ x => cprim_prim x
  | .meth o b args, Q, σ, h => ewp_mono (Q' := fun x σ₁ => methOk o x σ₁ ∧ ewps Φ G ls args (fun vs σ₂ => prim o (x :: vs) Q σ₂) σ₁) hM b (cwp_e hM b h) fun _ _ x => ⟨x.1, ewps_mono hM args (cwps_e hM args x.2) fun _ _ x => cprim_prim x⟩
  | .and es, Q, σ, h => cwpAnd_e hM es h
  | .or es, Q, σ, h => cwpOr_e hM es h
  | .not e, Q, σ, h => ewp_mono (Q' := fun d σ' => ∃ b, truthV d = some b ∧ Q (.bool (!b)) σ') hM e (cwp_e hM e h) fun _ _ x => opt_ex x
  | .call f args, Q, σ, h => cwps_e hM args h
  | .dict _ _ _, Q, σ, h => h
  | .comp _ _ _ _ _, Q, σ, h => h
  | .frz _, Q, σ, h => h
theorem cwps_e (hM : SpecMono Φ) : ∀ (ms : MEs) {Q : List V → View → Prop} {σ : View}, cwps Φ G ls ms Q σ → ewps Φ G ls ms Q σ
  | .nil, Q, σ, h => h
  | .cons e es, Q, σ, h => ewp_mono (Q' := fun v σ' => ewps Φ G ls es (fun vs σ'' => Q (v :: vs) σ'') σ') hM e (cwp_e hM e h) fun _ _ x => cwps_e hM es x
theorem cwpAnd_e (hM : SpecMono Φ) : ∀ (ms : MEs) {Q : Post} {σ : View}, cwpAnd Φ G ls ms Q σ → ewpAnd Φ G ls ms Q σ
  | .nil, Q, σ, h => h
  | .cons e .nil, Q, σ, h => cwp_e hM e h
  | .cons e (.cons e2 es), Q, σ, h => ewp_mono (Q' := fun d σ' => ∃ b, truthV d = some b ∧ (if b then ewpAnd Φ G ls (.cons e2 es) Q σ' else Q d σ')) hM e (cwp_e hM e h) fun d σ' x => by
    obtain ⟨b, h1, h2⟩ := opt_ex x
    refine ⟨b, h1, ?_⟩
    cases b with
    | true => exact cwpAnd_e hM (.cons e2 es) h2
    | false => exact h2
theorem cwpOr_e (hM : SpecMono Φ) : ∀ (ms : MEs) {Q : Post} {σ : View}, cwpOr Φ G ls ms Q σ → ewpOr Φ G ls ms Q σ
  | .nil, Q, σ, h => h
  | .cons e .nil, Q, σ, h => cwp_e hM e h
  | .cons e (.cons e2 es), Q, σ, h => ewp_mono (Q' := fun d σ' => ∃ b, truthV d = some b ∧ (if b then Q d σ' else ewpOr Φ G ls (.cons e2 es) Q σ')) hM e (cwp_e hM e h) fun d σ' x => by
    obtain ⟨b, h1, h2⟩ := opt_ex x
    refine ⟨b, h1, ?_⟩
    cases b with
    | true => exact h2
    | false => exact cwpOr_e hM (.cons e2 es) h2
end
noncomputable def ctwp (Φ : Spec) (G : Nat → V) (ls : Ls) (e : ME) (Q : Bool → View → Prop) (σ : View) : Prop := cwp Φ G ls e (fun d σ' => opt (truthV d) fun b => Q b σ') σ
theorem ctwp_t (hM : SpecMono Φ) {e : ME} {Q : Bool → View → Prop} {σ : View} (h : ctwp Φ G ls e Q σ) : twp Φ G ls e Q σ := ewp_mono (Q' := fun d σ' => ∃ b, truthV d = some b ∧ Q b σ') hM e (cwp_e hM e h) fun _ _ x => opt_ex x
/-! cuts -/
variable {Q : View → Ls → Prop} {R : Post} {σ : View} {r : MSs}
theorem c_assign (hM : SpecMono Φ) {i : Nat} {e : ME} (P : V → Prop) (h : cwp Φ G ls e (fun d σ' => σ' = σ ∧ P d) σ) (k : ∀ d, P d → swps Φ G r Q R σ (ls.set i d)) : swps Φ G (.cons (.assign i e) r) Q R σ ls := cut_assign hM P (cwp_e hM e h) k
theorem c_if_assign (hM : SpecMono Φ) {i : Nat} {t e : ME} (P : V → Prop) (h : ctwp Φ G ls t (fun c σ' => σ' = σ ∧ match c with | true => cwp Φ G ls e (fun d σ' => σ' = σ ∧ P d) σ | false => opt (ls i) P) σ) (k : ∀ d, P d → swps Φ G r Q R σ (ls.set i d)) : swps Φ G (.cons (.ite t (.cons (.assign i e) .nil) .nil) r) Q R σ ls := by
  refine cut_if_assign hM P (ewp_mono hM t (ctwp_t hM h) ?_) k
  rintro d σ' ⟨b, h1, h2, h3⟩
  refine ⟨b, h1, h2, ?_⟩
  cases b with
  | true => exact cwp_e hM e h3
  | false => exact opt_ex h3
theorem c_guard (hM : SpecMono Φ) {t : ME} {a : MSs} (h : ctwp Φ G ls t (fun c σ' => σ' = σ ∧ c = false) σ) (k : swps Φ G r Q R σ ls) : swps Φ G (.cons (.ite t a .nil) r) Q R σ ls := cut_guard hM (ctwp_t hM h) k
theorem c_ite_ret (hM : SpecMono Φ) {t e : ME} {b : MSs} (h : ctwp Φ G ls t (fun c σ' => σ' = σ ∧ c = true) σ) (k : cwp Φ G ls e R σ) : swps Φ G (.cons (.ite t (.cons (.ret e) .nil) b) r) Q R σ ls := cut_ite_ret hM (ctwp_t hM h) (cwp_e hM e k)
theorem c_ret (hM : SpecMono Φ) {e : ME} (k : cwp Φ G ls e R σ) : swps Φ G (.cons (.ret e) r) Q R σ ls := cwp_e hM e k
theorem c_expr (hM : SpecMono Φ) {e : ME} (k : cwp Φ G ls e (fun _ σ' => swps Φ G r Q R σ' ls) σ) : swps Φ G (.cons (.expr e) r) Q R σ ls := cwp_e hM e k
theorem c_set (hM : SpecMono Φ) {o k e : ME} (h : cwp Φ G ls e (fun d σ₁ => cwp Φ G ls o (fun x σ₂ => cwp Φ G ls k (fun y σ₃ => ∃ a j es, x = .ref a ∧ y = .int j ∧ σ₃ a = some (.dict false es) ∧ es.length < big ∧ swps Φ G r Q R (σ₃.upd a (.dict false (putD j d es))) ls) σ₂) σ₁) σ) : swps Φ G (.cons (.setSub o k e) r) Q R σ ls :=
  ewp_mono hM e (cwp_e hM e h) fun _ _ x => ewp_mono hM o (cwp_e hM o x) fun _ _ y => cwp_e hM k y
theorem c_any (hM : SpecMono Φ) {i : Nat} {e : ME} (h : cwp Φ G ls e (fun d σ' => swps Φ G r Q R σ' (ls.set i d)) σ) : swps Φ G (.cons (.assign i e) r) Q R σ ls := cwp_e hM e h
theorem c_for_r (hM : SpecMono Φ) {i : Nat} {e : ME} {b : MSs} {n : Int} (I : Nat → View → Ls → Prop) (he : cwp Φ G ls e (fun d σ' => σ' = σ ∧ d = .int n) σ) (h0 : 0 ≤ n) (h1 : n < 2 ^ 62) (hI : I 0 σ ls)
    (hs : ∀ k, k < n.toNat → ∀ σ₂ ls₂, I k σ₂ ls₂ → swps Φ G b (fun σ₃ ls₃ => I (k + 1) σ₃ ls₃) R σ₂ (ls₂.set i (.int (k : Nat)))) (hk : ∀ σ₂ ls₂, I n.toNat σ₂ ls₂ → swps Φ G r Q R σ₂ ls₂) : swps Φ G (.cons (.for1 (.one i) (.range (.cons e .nil)) b) r) Q R σ ls := by
  refine ewp_mono (Q' := fun d σ' => itWp 1 [d] (fun xs u σ₁ => _) σ') hM e (cwp_e hM e he) ?_
  rintro d σ' ⟨e1, e2⟩
  subst e1; subst e2
  rw [it_rng h0 h1]
  refine ⟨I, hI, fun k v σ₂ ls₂ hv hk2 => ?_, fun σ₂ ls₂ h => ?_⟩
  · obtain ⟨hk3, rfl⟩ := range_get hv
    exact hs k hk3 σ₂ ls₂ hk2
  · rw [List.length_map, List.length_range] at h; exact hk σ₂ ls₂ h
theorem c_for_l (hM : SpecMono Φ) {i : Nat} {e : ME} {b : MSs} {xs : List V} (I : Nat → View → Ls → Prop) (he : cwp Φ G ls e (fun d σ' => σ' = σ ∧ (d = .lst xs ∨ d = .tup xs)) σ) (hI : I 0 σ ls)
    (hs : ∀ k v, xs[k]? = some v → ∀ σ₂ ls₂, I k σ₂ ls₂ → swps Φ G b (fun σ₃ ls₃ => I (k + 1) σ₃ ls₃) R σ₂ (ls₂.set i v)) (hk : ∀ σ₂ ls₂, I xs.length σ₂ ls₂ → swps Φ G r Q R σ₂ ls₂) : swps Φ G (.cons (.for1 (.one i) (.seq e) b) r) Q R σ ls := by
  refine ewp_mono (Q' := fun d σ' => itWp 0 [d] (fun xs u σ₁ => _) σ') hM e (cwp_e hM e he) ?_
  rintro d σ' ⟨e1, e2⟩
  subst e1
  rcases e2 with rfl | rfl
  · rw [it_lst]; exact ⟨I, hI, fun k v σ₂ ls₂ hv h => hs k v hv σ₂ ls₂ h, hk⟩
  · rw [it_tup]; exact ⟨I, hI, fun k v σ₂ ls₂ hv h => hs k v hv σ₂ ls₂ h, hk⟩
theorem rangeL1 (lo hi : Int) : rangeL lo hi 1 = (List.range (hi - lo).toNat).map fun (k : Nat) => lo + (k : Int) := rfl
theorem c_for_r2 (hM : SpecMono Φ) {i : Nat} {e1 e2 : ME} {b : MSs} {lo hi : Int} (I : Nat → View → Ls → Prop) (he : cwps Φ G ls (.cons e1 (.cons e2 .nil)) (fun vs σ' => σ' = σ ∧ vs = [.int lo, .int hi]) σ) (h1 : smallI lo = true) (h2 : smallI hi = true) (hI : I 0 σ ls)
    (hs : ∀ k : Nat, k < (hi - lo).toNat → ∀ σ₂ ls₂, I k σ₂ ls₂ → swps Φ G b (fun σ₃ ls₃ => I (k + 1) σ₃ ls₃) R σ₂ (ls₂.set i (.int (lo + (k : Int))))) (hk : ∀ σ₂ ls₂, I (hi - lo).toNat σ₂ ls₂ → swps Φ G r Q R σ₂ ls₂) : swps Φ G (.cons (.for1 (.one i) (.range (.cons e1 (.cons e2 .nil))) b) r) Q R σ ls := by
  refine ewps_mono (Q' := fun vs σ' => itWp 1 vs (fun xs u σ₁ => _) σ') hM _ (cwps_e hM _ he) ?_
  rintro vs σ' ⟨e1, e2⟩
  subst e1; subst e2
  have e : rangeXs [.int lo, .int hi] = some ((List.range (hi - lo).toNat).map fun (k : Nat) => V.int (lo + (k : Int))) := by
    show (if (smallI lo && smallI hi) = true then some ((rangeL lo hi 1).map V.int) else none) = _
    simp only [h1, h2, rangeL1, List.map_map]; rfl
  refine ⟨_, e, I, hI, fun k v σ₂ ls₂ hv hk2 => ?_, fun σ₂ ls₂ h => ?_⟩
  · rw [List.getElem?_map, Option.map_eq_some_iff] at hv
    obtain ⟨j, hj, rfl⟩ := hv
    obtain ⟨hj1, hj2⟩ := List.getElem?_eq_some_iff.mp hj
    simp only [List.length_range, List.getElem_range] at hj1 hj2
    subst hj2
    exact hs k hj1 σ₂ ls₂ hk2
  · rw [List.length_map, List.length_range] at h; exact hk σ₂ ls₂ h
theorem c_for_d (hM : SpecMono Φ) {i : Nat} {e : ME} {b : MSs} {ds : List (Int × V)} (I : Nat → View → Ls → Prop) (he : cwp Φ G ls e (fun d σ' => σ' = σ ∧ d = .dct ds) σ) (hI : I 0 σ ls)
    (hs : ∀ k p, ds[k]? = some p → ∀ σ₂ ls₂, I k σ₂ ls₂ → swps Φ G b (fun σ₃ ls₃ => I (k + 1) σ₃ ls₃) R σ₂ (ls₂.set i (.int p.1))) (hk : ∀ σ₂ ls₂, I ds.length σ₂ ls₂ → swps Φ G r Q R σ₂ ls₂) : swps Φ G (.cons (.for1 (.one i) (.seq e) b) r) Q R σ ls := by
  refine ewp_mono (Q' := fun d σ' => itWp 0 [d] (fun xs u σ₁ => _) σ') hM e (cwp_e hM e he) ?_
  rintro d σ' ⟨e1, e2⟩
  subst e1; subst e2
  refine ⟨_, (show itXs 0 σ' [.dct ds] = some (ds.map fun p => V.int p.1) from rfl), I, hI, fun k v σ₂ ls₂ hv h => ?_, fun σ₂ ls₂ h => ?_⟩
  · rw [List.getElem?_map, Option.map_eq_some_iff] at hv
    obtain ⟨p, hp, rfl⟩ := hv
    exact hs k p hp σ₂ ls₂ h
  · rw [List.length_map] at h; exact hk σ₂ ls₂ h
theorem c_for_x (hM : SpecMono Φ) {i : Nat} {e : ME} {b : MSs} (P : List V → Prop) (he : cwp Φ G ls e (fun d σ' => σ' = σ ∧ ∃ xs, d = .lst xs ∧ P xs) σ)
    (hk : ∀ xs, P xs → ∃ I : Nat → View → Ls → Prop, I 0 σ ls ∧ (∀ k v, xs[k]? = some v → ∀ σ₂ ls₂, I k σ₂ ls₂ → swps Φ G b (fun σ₃ ls₃ => I (k + 1) σ₃ ls₃) R σ₂ (ls₂.set i v)) ∧ ∀ σ₂ ls₂, I xs.length σ₂ ls₂ → swps Φ G r Q R σ₂ ls₂) : swps Φ G (.cons (.for1 (.one i) (.seq e) b) r) Q R σ ls := by
  refine ewp_mono (Q' := fun d σ' => itWp 0 [d] (fun xs u σ₁ => _) σ') hM e (cwp_e hM e he) ?_
  rintro d σ' ⟨e1, xs, e2, hp⟩
  subst e1; subst e2
  refine Exists.elim (hk xs hp) ?_; rintro I hq0
  rw [it_lst]; exact ⟨I, hq0.1, fun k v σ₂ ls₂ hv h => hq0.2.1 k v hv σ₂ ls₂ h, hq0.2.2⟩
/-- a loop by a relation that ends -/
theorem c_loop (hM : SpecMono Φ) {t : ME} {b : MSs} (I : Nat → View → Ls → Prop) (h0 : ∃ n, I n σ ls)
    (h : ∀ n σ₁ ls₁, I n σ₁ ls₁ → ctwp Φ G ls₁ t (fun c σ₂ => match c with | true => swps Φ G b (fun σ₃ ls₃ => ∃ m, m < n ∧ I m σ₃ ls₃) R σ₂ ls₁ | false => swps Φ G r Q R σ₂ ls₁) σ₁) : swps Φ G (.cons (.loop t b) r) Q R σ ls := by
  refine ⟨I, h0, fun n σ₁ ls₁ hI => ewp_mono hM t (ctwp_t hM (h n σ₁ ls₁ hI)) ?_⟩
  rintro d σ' ⟨c, h1, h2⟩
  refine ⟨c, h1, ?_⟩
  cases c with
  | true => exact h2
  | false => exact h2
/-- a comprehension whose items all have a property -/
theorem comp_P {elt : ME} {t : Tg} {xs u : List V} {Qp : Post} (P : V → Prop) (hu : lockV σ u = σ ∧ unlockV σ u σ = σ) (hb : xs.length ≤ big) (h : ∀ (k : Nat) v, xs[k]? = some v → ewp Φ G (t.up v ls) elt (fun d σ₄ => σ₄ = σ ∧ P d) σ) (hM : SpecMono Φ)
    (hQ : ∀ l : List V, l.length = xs.length → (∀ x ∈ l, P x) → Qp (.lst l) σ) : xs.length ≤ big ∧ ∃ I : Nat → List V → View → Prop, I 0 [] (lockV σ u) ∧
      (∀ k v acc σ₂, xs[k]? = some v → I k acc σ₂ → ewpIfs Φ G (t.up v ls) .nil (fun b σ₃ => if b then ewp Φ G (t.up v ls) elt (fun d σ₄ => I (k + 1) (acc ++ [d]) σ₄) σ₃ else I (k + 1) acc σ₃) σ₂) ∧
      (∀ acc σ₂, I xs.length acc σ₂ → if false then ∀ a, unlockV σ u σ₂ a = none → Qp (.ref a) ((unlockV σ u σ₂).upd a (.list false acc)) else Qp (.lst acc) (unlockV σ u σ₂)) := by
  refine ⟨hb, fun k acc σ₂ => σ₂ = σ ∧ acc.length = k ∧ ∀ x ∈ acc, P x, ⟨hu.1, rfl, fun _ h => ((List.not_mem_nil h).elim)⟩, fun k v acc σ₂ hv hI => ?_, fun acc σ₂ hI => ?_⟩
  · obtain ⟨rfl, hq1⟩ := hI
    refine ewp_mono hM elt (h k v hv) fun d σ₄ hd => ⟨hd.1, by rw [List.length_append, hq1.1]; rfl, fun x hx => ?_⟩
    rcases List.mem_append.mp hx with hx | hx
    · exact hq1.2 x hx
    · cases hx with
      | head => exact hd.2
      | tail _ h => cases h
  · obtain ⟨rfl, hq0⟩ := hI
    show Qp (.lst acc) (unlockV σ₂ u σ₂)
    simp only [hu.2]; exact hQ acc hq0.1 hq0.2
theorem w_comp_rP (hM : SpecMono Φ) {e elt : ME} {x : Nat} {n : Nat} {Qp : Post} (P : V → Prop) (he : cwp Φ G ls e (fun d σ' => σ' = σ ∧ d = .int n) σ) (hb : n ≤ big) (h : ∀ k : Nat, k < n → ewp Φ G (ls.set x (.int k)) elt (fun d σ₄ => σ₄ = σ ∧ P d) σ)
    (hQ : ∀ l : List V, l.length = n → (∀ x ∈ l, P x) → Qp (.lst l) σ) : ewp Φ G ls (.comp false elt (.one x) (.range (.cons e .nil)) .nil) Qp σ := by
  refine ewp_mono (Q' := fun d σ' => itWp 1 [d] (fun xs u σ₁ => _) σ') hM e (cwp_e hM e he) ?_
  rintro d σ' ⟨e1, e2⟩
  subst e1; subst e2
  rw [it_rng (by (first | lia | omega)) (by unfold big at hb; (first | lia | omega))]
  refine comp_P P ⟨rfl, rfl⟩ (by simpa using hb) (fun k v hv => ?_) hM fun l h1 h2 => hQ l (by rw [h1]; simp) h2
  obtain ⟨hk, rfl⟩ := range_get hv
  exact h k (by simpa using hk)
end
/-! values that compute -/
theorem r_opt {α : Type} {a : α} {k : α → Prop} : opt (some a) k = k a := rfl
theorem r_on1 {f : V → Option V} {x : V} : on1 f [x] = f x := rfl
theorem r_on2 {f : V → V → Option V} {x y : V} : on2 f [x, y] = f x y := rfl
theorem r_on3 {f : V → V → V → Option V} {x y z : V} : on3 f [x, y, z] = f x y z := rfl
theorem r_int1 {f : Int → Option V} {a : Int} : int1 f (.int a) = f a := rfl
theorem r_bool1 {f : Bool → Option V} {a : Bool} : bool1 f (.bool a) = f a := rfl
theorem r_str1 {f : Str → Option V} {a : Str} : str1 f (.str a) = f a := rfl
theorem r_tr {a : Bool} : truthV (.bool a) = some a := rfl
theorem r_map {α β : Type} {a : α} {f : α → β} : Option.map f (some a) = some (f a) := rfl
theorem r_eq_i {σ : View} {a b : Int} : eqV σ (.int a) (.int b) = some (decide (a = b)) := rfl
theorem r_eq_s {σ : View} {a b : Str} : eqV σ (.str a) (.str b) = some (decide (a = b)) := rfl
theorem r_ord_i {f : Int → Int → Bool} {g : Str → Str → Bool} {a b : Int} : ordV f g [.int a, .int b] = some (.bool (f a b)) := rfl
theorem r_ord_s {f : Int → Int → Bool} {g : Str → Str → Bool} {a b : Str} : ordV f g [.str a, .str b] = some (.bool (g a b)) := rfl
theorem r_add_i {σ : View} {a b : Int} : addV σ (.int a) (.int b) = some (.int (a + b)) := rfl
theorem r_mul_i {σ : View} {a b : Int} : mulV σ (.int a) (.int b) = if mulFits a b then some (.int (a * b)) else none := rfl
theorem r_len_l {σ : View} {xs : List V} : lenOf σ (.lst xs) = some xs.length := rfl
theorem r_len_t {σ : View} {xs : List V} : lenOf σ (.tup xs) = some xs.length := rfl
theorem r_li_l {σ : View} {xs : List V} : listItems σ (.lst xs) = some xs := rfl
theorem r_li_t {σ : View} {xs : List V} : listItems σ (.tup xs) = some xs := rfl
theorem r_sq_l {σ : View} {xs : List V} : seqOf σ (.lst xs) = some xs := rfl
theorem r_sq_t {σ : View} {xs : List V} : seqOf σ (.tup xs) = some xs := rfl
theorem r_it_l {σ : View} {xs : List V} {i : Int} : itemV σ (.lst xs) (.int i) = (idxOf i xs.length).bind fun j => xs[j]? := rfl
theorem r_it_t {σ : View} {xs : List V} {i : Int} : itemV σ (.tup xs) (.int i) = (idxOf i xs.length).bind fun j => xs[j]? := rfl
theorem r_it_d {σ : View} {es : List (Int × V)} {k : Int} : itemV σ (.dct es) (.int k) = lookD k es := rfl
theorem r_in_d {σ : View} {es : List (Int × V)} {k : Int} : inV σ (.int k) (.dct es) = some (lookD k es).isSome := rfl
theorem r_len_d {σ : View} {es : List (Int × V)} : lenOf σ (.dct es) = some (es.map fun p => V.int p.1).length := rfl
theorem r_it_t0 {σ : View} {x : V} {xs : List V} : itemV σ (.tup (x :: xs)) (.int 0) = some x := by
  simp only [r_it_t, show idxOf 0 (x :: xs).length = some 0 from idxOf_nat (n := 0) (by simp)]; rfl
noncomputable def es (l : List ME) : MEs := l.foldr .cons .nil
noncomputable def ss (l : List MS) : MSs := l.foldr .cons .nil
end Mine
end

section
open PySem PySem.W PySem.Calls PyProof.Rows
set_option maxRecDepth 100000
namespace Mine
local macro_rules | `(tactic| sizeOf_list_dec) => `(tactic| repeat (first | dsimp only [ctwp, cwp, cwps, cwpAnd, cwpOr, cprim, isEff, r_opt, pureOp, r_on1, r_on2, r_on3, r_int1, int2, r_bool1, r_str1, es, ss, List.foldr, set_get, argLs, r_tr, r_eq_i, r_eq_s, r_ord_i, r_ord_s, r_add_i, r_mul_i, r_len_l, r_len_t, r_li_l, r_li_t, r_sq_l, r_sq_t, r_it_l, r_it_t, r_it_d, r_in_d, r_len_d, r_map, List.getElem?_cons_zero, List.getElem?_cons_succ, ↓reduceIte, Nat.reduceEqDiff, Int.toNat] | refine opt_if (by decide) ?_ | refine opt_of (o := ite _ _ _) rfl ?_ | refine opt_of (o := Option.bind _ _) rfl ?_))
section

open PySem PyProof.Rows
set_option linter.unusedVariables false
set_option linter.unusedSimpArgs false
/-- values that are their own story: no objects of the view -/
noncomputable def plainV : V → Bool
  | .ref _ => false
  | _ => true
theorem Dat.plain {n : Nat} {v : V} (h : Dat n v) : plainV v = true := by cases h <;> rfl
noncomputable def isTupF : V → Bool
  | .tup _ => true
  | _ => false
noncomputable def isStrF : V → Bool
  | .str _ => true
  | _ => false
theorem ty_tup {σ : View} {v : V} (h : plainV v = true) : isTypeV σ "tuple" v = some (isTupF v) := by
  cases v <;> first | rfl | exact ff h
theorem ty_str {σ : View} {v : V} (h : plainV v = true) : isTypeV σ "str" v = some (isStrF v) := by
  cases v <;> first | rfl | exact ff h
noncomputable def isIntF : V → Bool
  | .int _ => true
  | .bool _ => true
  | _ => false
noncomputable def isBoolF : V → Bool
  | .bool _ => true
  | _ => false
theorem ty_int {σ : View} {v : V} (h : plainV v = true) : isTypeV σ "int" v = some (isIntF v) := by
  cases v <;> first | rfl | exact ff h
theorem ty_bool {σ : View} {v : V} (h : plainV v = true) : isTypeV σ "bool" v = some (isBoolF v) := by
  cases v <;> first | rfl | exact ff h
noncomputable def cellAt (ks : List Int) (k : Nat) : Int := ks.getD k 0
/-- _law_cell_at, in every law -/
noncomputable def mCell : MSs := ss [.ite (.op .lt (es [.var 1, .op .len (es [.var 0])])) (ss [.ret (.op .item (es [.var 0, .var 1]))]) (ss []), .ret (.lit (.int 0))]
noncomputable def cellS (xs : List V) (Q : Post) (σ : View) : Prop := ∃ (ks : List Int) (k : Int), xs = [.lst (ks.map .int), .int k] ∧ 0 ≤ k ∧ ks.length ≤ 63 ∧ Q (.int (cellAt ks k.toNat)) σ
theorem cellS_mono {xs : List V} {Q Q' : Post} {σ : View} (h : cellS xs Q σ) (k : ∀ d σ', Q d σ' → Q' d σ') : cellS xs Q' σ := let ⟨ks, j, h1, h2, h3, h4⟩ := h; ⟨ks, j, h1, h2, h3, k _ _ h4⟩
theorem cellS_ok (Φ : Spec) (hM : SpecMono Φ) (Gc : Nat → V) {xs : List V} {Q : Post} {σ : View} (h : cellS xs Q σ) : xs.length = 2 ∧ swps Φ Gc mCell (fun σ' _ => Q .none σ') Q σ (argLs xs) := by
  refine Exists.elim h fun ks hx => ?_; obtain ⟨k, rfl, h0, hl, h⟩ := hx
  refine ⟨rfl, ?_⟩
  skip
  skip
  have e : (ks.map V.int).length = ks.length := List.length_map _
  by_cases q : k < (ks.length : Int)
  · refine c_ite_ret hM ?_ ?_
    · sizeOf_list_dec
      rw [e]; exact ⟨rfl, decide_eq_true q⟩
    · sizeOf_list_dec
      refine opt_of (a := .int (cellAt ks k.toNat)) ?_ h
      simp only [e, idxOf_pos h0 q]
      show (ks.map V.int)[k.toNat]? = _
      have hk : k.toNat < ks.length := by lia
      simp only [List.getElem?_map, List.getElem?_eq_getElem hk]
      unfold cellAt
      simp only [List.getD_eq_getElem?_getD, List.getElem?_eq_getElem hk]; rfl
  · refine c_guard hM ?_ ?_
    · sizeOf_list_dec
      rw [e]; exact ⟨rfl, decide_eq_false q⟩
    have : cellAt ks k.toNat = 0 := by unfold cellAt; rw [List.getD_eq_getElem?_getD, List.getElem?_eq_none (by lia)]; rfl
    rw [this] at h
    exact c_ret hM h
theorem sliceL_take {α : Type} {xs : List α} {b : Int} (h : 0 ≤ b) : sliceL xs 0 (some b) = xs.take b.toNat := by
  have : clipI xs.length 0 = 0 := by rfl
  unfold sliceL; simp only [this]; simp [clipI]
  rw [if_neg (by (first | lia | omega))]; (first | lia | omega)
theorem sliceL_drop {α : Type} {xs : List α} {a : Int} (h : 0 ≤ a) : sliceL xs a none = xs.drop a.toNat := by
  unfold sliceL; simp [clipI]
  rw [if_neg (by (first | lia | omega))]; (first | lia | omega)
end

section

open PySem PyProof.Rows
set_option linter.unusedVariables false
set_option linter.unusedSimpArgs false
set_option maxRecDepth 100000
theorem w_comp_gm {Φ : Spec} {G : Nat → V} {ls : Ls} {σ : View} {Q : Post} (hM : SpecMono Φ) {elt e : ME} {x : Nat} {xs : List V} (f : V → V) (he : ewp Φ G ls e (fun d σ' => σ' = σ ∧ itXs 0 σ [d] = some xs ∧ lockV σ [d] = σ ∧ unlockV σ [d] σ = σ) σ) (hx : xs.length ≤ big)
    (h : ∀ v ∈ xs, ewp Φ G (ls.set x v) elt (fun d σ₄ => σ₄ = σ ∧ d = f v) σ) (hQ : Q (.lst (xs.map f)) σ) : ewp Φ G ls (.comp false elt (.one x) (.seq e) .nil) Q σ := by
  refine ewp_mono (Q' := fun d σ' => itWp 0 [d] _ σ') hM e he ?_
  rintro d σ' ⟨e1, e2, e3, e4⟩
  cases e1
  exact ⟨xs, e2, comp_m hM f e3 e4 hx h hQ⟩
noncomputable def wholeF : V → Bool
  | .int _ => true
  | _ => false
noncomputable def keyF : V → Bool
  | .int i => decide (-10 ^ 60 < i) && decide (i < 10 ^ 60)
  | _ => false
noncomputable def signF (c : Nat) : Bool := decide (32 ≤ c) && decide (c ≤ 126)
noncomputable def valueF : V → Bool
  | .str s => decide (s.length ≤ 60) && s.cps.toList.all signF
  | _ => false
noncomputable def wholeS (xs : List V) (Q : Post) (σ : View) : Prop := ∃ v, xs = [v] ∧ plainV v = true ∧ Q (.bool (wholeF v)) σ
noncomputable def keyS (xs : List V) (Q : Post) (σ : View) : Prop := ∃ v, xs = [v] ∧ plainV v = true ∧ Q (.bool (keyF v)) σ
noncomputable def valueS (xs : List V) (Q : Post) (σ : View) : Prop := ∃ v, xs = [v] ∧ plainV v = true ∧ Q (.bool (valueF v)) σ
noncomputable def mWhole : MSs := ss [.ret (.and (es [(.op (.isinst "int") (es [(.var 0)])), (.not (.op (.isinst "bool") (es [(.var 0)])))]))]
noncomputable def mKey (w : Nat) : MSs := ss [.ret (.and (es [(.call w (es [(.var 0)])), (.op .lt (es [(.op .neg (es [(.op .pow (es [(.lit (.int 10)), (.lit (.int 60))]))])), (.var 0)])), (.op .lt (es [(.var 0), (.op .pow (es [(.lit (.int 10)), (.lit (.int 60))]))]))]))]
noncomputable def mValue : MSs := ss [.ite (.or (es [(.not (.op (.isinst "str") (es [(.var 0)]))), (.op .gt (es [(.op .len (es [(.var 0)])), (.gcon 0)]))])) (ss [.ret (.lit (.bool false))]) (ss []),
    .ret (.op .all (es [(.comp false (.and (es [(.op .le (es [(.lit (.str (Str.ofString " "))), (.var 1)])), (.op .le (es [(.var 1), (.lit (.str (Str.ofString "~")))]))])) (.one 1) (.seq (.var 0)) (es []))]))]
noncomputable def mSays : MSs := ss [.ret (.and (es [(.or (es [(.op .is (es [(.var 0), (.lit (.bool true))])), (.op .is (es [(.var 0), (.lit (.bool false))]))])), (.op .eq (es [(.var 0), (.var 1)]))]))]
theorem wholeS_mono {xs : List V} {Q Q' : Post} {σ : View} (h : wholeS xs Q σ) (k : ∀ d σ', Q d σ' → Q' d σ') : wholeS xs Q' σ := let ⟨v, h1, h2, h3⟩ := h; ⟨v, h1, h2, k _ _ h3⟩
theorem keyS_mono {xs : List V} {Q Q' : Post} {σ : View} (h : keyS xs Q σ) (k : ∀ d σ', Q d σ' → Q' d σ') : keyS xs Q' σ := let ⟨v, h1, h2, h3⟩ := h; ⟨v, h1, h2, k _ _ h3⟩
theorem valueS_mono {xs : List V} {Q Q' : Post} {σ : View} (h : valueS xs Q σ) (k : ∀ d σ', Q d σ' → Q' d σ') : valueS xs Q' σ := let ⟨v, h1, h2, h3⟩ := h; ⟨v, h1, h2, k _ _ h3⟩
theorem wholeS_ok (Φ : Spec) (hM : SpecMono Φ) (Gc : Nat → V) {xs : List V} {Q : Post} {σ : View} (h : wholeS xs Q σ) : xs.length = 1 ∧ swps Φ Gc mWhole (fun σ' _ => Q .none σ') Q σ (argLs xs) := by
  obtain ⟨v, rfl, hv, h⟩ := h
  refine ⟨rfl, ?_⟩
  skip
  skip
  refine c_ret hM ?_
  sizeOf_list_dec
  refine opt_map (ty_int hv) ?_
  cases hi : isIntF v with
  | false =>
    have : wholeF v = false := by cases v <;> first | rfl | exact ff2 hi
    rw [this] at h; exact h
  | true =>
    sizeOf_list_dec
    refine opt_map (ty_bool hv) ?_
    have : wholeF v = !isBoolF v := by cases v <;> first | rfl | exact ff hi
    rw [this] at h; exact h
theorem keyS_ok (Φ : Spec) (hM : SpecMono Φ) (w : Nat) (hw : ∀ xs Q σ, wholeS xs Q σ → Φ w xs Q σ) (Gc : Nat → V) {xs : List V} {Q : Post} {σ : View} (h : keyS xs Q σ) : xs.length = 1 ∧ swps Φ Gc (mKey w) (fun σ' _ => Q .none σ') Q σ (argLs xs) := by
  obtain ⟨v, rfl, hv, h⟩ := h
  refine ⟨rfl, ?_⟩
  skip
  skip
  refine c_ret hM ?_
  sizeOf_list_dec
  refine hw _ _ _ ⟨v, rfl, hv, ?_⟩
  cases v with
  | int i =>
    have h : Q (.bool (decide (-10 ^ 60 < i) && decide (i < 10 ^ 60))) σ := h
    refine (show opt (truthV (.bool true)) _ from ?_)
    sizeOf_list_dec
    cases hq : decide (-10 ^ 60 < i) with
    | true =>
      rw [hq] at h
      sizeOf_list_dec
      exact h
    | false => rw [hq] at h; exact h
  | _ => exact h
theorem strLe_single {a b : Nat} : strLe ⟨#[a]⟩ ⟨#[b]⟩ = decide (a ≤ b) := by
  simp [strLe, List.cons_lt_cons_iff]
  by_cases q : a ≤ b
  · simp [q]
  · skip; (first | lia | omega)
theorem bools_map {α : Type} (g : α → Bool) (l : List α) : bools? (l.map fun a => V.bool (g a)) = some (l.map g) := by
  induction l with
  | nil => rfl
  | cons a l ih => simp [bools?, ih]
theorem sign_fact {c : Nat} : strLe (Str.ofString " ") ⟨#[c]⟩ = decide (32 ≤ c) ∧ strLe ⟨#[c]⟩ (Str.ofString "~") = decide (c ≤ 126) := by
  skip
  exact ⟨strLe_single, strLe_single⟩
noncomputable def charF : V → V
  | .str t => .bool (t.cps.toList.all signF)
  | _ => .none
theorem chars_bools : ∀ l : List Nat, bools? ((l.map fun c => V.str ⟨#[c]⟩).map charF) = some (l.map signF)
  | [] => rfl
  | c :: l => by
    show (bools? ((l.map fun c => V.str ⟨#[c]⟩).map charF)).map (_ :: ·) = _
    rw [chars_bools l]
    show some ((signF c && true) :: _) = _
    rw [Bool.and_true]; rfl
theorem valueS_ok (Φ : Spec) (hM : SpecMono Φ) (Gc : Nat → V) (hG : Gc 0 = .int 60) {xs : List V} {Q : Post} {σ : View} (h : valueS xs Q σ) : xs.length = 1 ∧ swps Φ Gc mValue (fun σ' _ => Q .none σ') Q σ (argLs xs) := by
  obtain ⟨v, rfl, hv, h⟩ := h
  refine ⟨rfl, ?_⟩
  skip
  skip
  cases v with
  | str s =>
    have h : Q (.bool (decide (s.length ≤ 60) && s.cps.toList.all signF)) σ := h
    have hl : (charsOf s).length = s.length := by simp [charsOf, Str.length]
    by_cases q : s.length ≤ 60
    · rw [decide_eq_true q, Bool.true_and] at h
      refine c_guard hM ?_ ?_
      · sizeOf_list_dec
        refine opt_map (a := true) (ty_str (v := .str s) rfl) ?_
        sizeOf_list_dec
        refine opt_map (a := s.length) (by show some (charsOf s).length = _; rw [hl]) ?_
        rw [hG]
        exact ⟨rfl, decide_eq_false (by lia)⟩
      refine c_ret hM ?_
      sizeOf_list_dec
      refine w_comp_gm hM (xs := charsOf s) charF ⟨_, rfl, rfl, rfl, rfl, rfl⟩ (by rw [hl]; exact Nat.le_trans q (by decide)) (fun v hv => cwp_e hM _ ?_) ?_
      · refine Exists.elim (List.mem_map.mp hv) fun c hx => ?_; obtain ⟨hc, rfl⟩ := hx
        sizeOf_list_dec
        refine sign_fact.1 ▸ ?_
        cases hq : decide (32 ≤ c) with
        | false => exact ⟨rfl, by show V.bool false = .bool ((decide (32 ≤ c) && decide (c ≤ 126)) && true); rw [hq]; rfl⟩
        | true =>
          sizeOf_list_dec
          refine sign_fact.2 ▸ ?_
          exact ⟨rfl, by show _ = V.bool ((decide (32 ≤ c) && decide (c ≤ 126)) && true); rw [hq, Bool.and_true, Bool.true_and]⟩
      · refine opt_of (a := .bool (s.cps.toList.all signF)) ?_ h
        show (bools? ((s.cps.toList.map fun c => V.str ⟨#[c]⟩).map charF)).map _ = _
        rw [chars_bools]
        show some (V.bool ((s.cps.toList.map signF).all id)) = _
        exact List.all_map ▸ rfl
    · rw [decide_eq_false q, Bool.false_and] at h
      refine c_ite_ret hM ?_ h
      sizeOf_list_dec
      refine opt_map (a := true) (ty_str (v := .str s) rfl) ?_
      sizeOf_list_dec
      refine opt_map (a := s.length) (by show some (charsOf s).length = _; rw [hl]) ?_
      rw [hG]
      exact ⟨rfl, decide_eq_true (by lia)⟩
  | _ =>
    refine c_ite_ret hM ?_ h
    sizeOf_list_dec
    refine opt_map (ty_str hv) ?_
    exact ⟨rfl, rfl⟩
/-- _law_says of two truths -/
noncomputable def saysS (xs : List V) (Q : Post) (σ : View) : Prop := ∃ a b, xs = [.bool a, .bool b] ∧ Q (.bool (a == b)) σ
theorem saysS_mono {xs : List V} {Q Q' : Post} {σ : View} (h : saysS xs Q σ) (k : ∀ d σ', Q d σ' → Q' d σ') : saysS xs Q' σ := let ⟨v, w, h1, h2⟩ := h; ⟨v, w, h1, k _ _ h2⟩
theorem saysS_ok (Φ : Spec) (hM : SpecMono Φ) (Gc : Nat → V) {xs : List V} {Q : Post} {σ : View} (h : saysS xs Q σ) : xs.length = 2 ∧ swps Φ Gc mSays (fun σ' _ => Q .none σ') Q σ (argLs xs) := by
  obtain ⟨a, b, rfl, h⟩ := h
  refine ⟨rfl, ?_⟩
  skip
  skip
  refine c_ret hM ?_
  have e : eqV σ (.bool a) (.bool b) = some (a == b) := by cases a <;> cases b <;> rfl
  cases a with
  | true => exact (show opt ((eqV σ (.bool true) (.bool b)).map V.bool) (fun d => Q d σ) from opt_map e h)
  | false => exact (show opt ((eqV σ (.bool false) (.bool b)).map V.bool) (fun d => Q d σ) from opt_map e h)
end

section

open PySem PyProof.Rows
set_option linter.unusedVariables false
set_option linter.unusedSimpArgs false
/-! dicts as lists of entries -/
noncomputable def keysD {α : Type} (es : List (Int × α)) : List Int := es.map (·.1)
section
variable {α : Type} {es : List (Int × α)} {j k : Int} {v w : α}
theorem lookD_put : lookD j (putD k v es) = if j = k then some v else lookD j es := by
  induction es with
  | nil => dsimp only [putD, lookD]; by_cases q : j = k <;> simp [q, eq_comm]
  | cons p es ih =>
    obtain ⟨i, w⟩ := p
    simp only [putD]
    by_cases q : i = k
    · subst q; simp only [if_true, lookD]; by_cases r : i = j
      · subst r; simp
      · simp [r, Ne.symm r]
    · simp only [q, if_false, lookD, ih]
      by_cases r : i = j
      · subst r; simp [q]
      · simp [r]
theorem lookD_none : lookD k es = none ↔ k ∉ keysD es := by
  induction es with
  | nil => simp [lookD, keysD]
  | cons p es ih =>
    skip
    simp only [lookD, keysD, List.map_cons, List.mem_cons, not_or] at ih ⊢
    by_cases q : p.1 = k
    · subst q; simp
    · simp only [q, if_false, ih]; simp [Ne.symm q]
theorem lookD_some_mem (h : lookD k es = some v) : (k, v) ∈ es := by
  induction es with
  | nil => exact nn h
  | cons p es ih =>
    skip
    simp only [lookD] at h
    by_cases q : p.1 = k
    · subst q; simp at h; subst h; simp
    · simp only [q, if_false] at h; exact List.mem_cons_of_mem _ (ih h)
theorem mem_lookD (hn : (keysD es).Nodup) (h : (k, v) ∈ es) : lookD k es = some v := by
  induction es with
  | nil => simp at h
  | cons p es ih =>
    skip
    simp only [keysD, List.map_cons, List.nodup_cons] at hn
    simp only [lookD]
    rcases List.mem_cons.mp h with e | e
    · cases e; simp
    · by_cases q : p.1 = k
      · subst q; exact absurd (List.mem_map.mpr ⟨_, e, rfl⟩) hn.1
      · simp only [q, if_false]; exact ih hn.2 e
theorem put_new (h : lookD k es = none) : putD k v es = es ++ [(k, v)] := by
  induction es with
  | nil => rfl
  | cons p es ih =>
    skip
    simp only [lookD] at h
    by_cases q : p.1 = k
    · subst q; simp at h
    · simp only [q, if_false] at h; simp [putD, q, ih h]
theorem keys_put : keysD (putD k v es) = if k ∈ keysD es then keysD es else keysD es ++ [k] := by
  induction es with
  | nil => rfl
  | cons p es ih =>
    skip
    simp only [putD, keysD] at ih ⊢
    by_cases q : p.1 = k
    · subst q; simp
    · simp only [q, if_false, List.map_cons, ih, List.mem_cons]
      by_cases r : k ∈ es.map (·.1)
      · simp [r]
      · simp only [r, if_false, or_false]; exact Eq.symm (if_neg (fun h => q h.symm))
theorem nodup_put (hn : (keysD es).Nodup) : (keysD (putD k v es)).Nodup := by
  simp only [keys_put]; split
  · exact hn
  · next h => exact List.nodup_append.mpr ⟨hn, by simp, by simp; intro a ha e; subst e; exact h ha⟩
theorem len_put_le : (putD k v es).length ≤ es.length + 1 := by
  induction es with
  | nil => exact Nat.le_refl _
  | cons p es ih =>
    skip
    simp only [putD]
    by_cases q : p.1 = k
    · simp [q]
    · simp [q]; exact ih
theorem mem_put {p : Int × α} (h : p ∈ putD k v es) : p = (k, v) ∨ p ∈ es := by
  induction es with
  | nil => replace h := List.mem_singleton.mp h; exact .inl h
  | cons q es ih =>
    skip
    simp only [putD] at h
    by_cases r : q.1 = k
    · subst r; simp at h; rcases h with rfl | h
      · exact .inl rfl
      · exact .inr (List.mem_cons_of_mem _ h)
    · simp only [r, if_false] at h
      rcases List.mem_cons.mp h with rfl | h
      · exact .inr (List.mem_cons_self ..)
      · rcases ih h with h | h
        · exact .inl h
        · exact .inr (List.mem_cons_of_mem _ h)
theorem mem_drop {p : Int × α} (h : p ∈ dropD k es) : p ∈ es := by
  induction es with
  | nil => simp [dropD] at h
  | cons q es ih =>
    skip
    simp only [dropD] at h
    by_cases r : q.1 = k
    · subst r; simp at h; exact List.mem_cons_of_mem _ h
    · simp only [r, if_false] at h
      rcases List.mem_cons.mp h with rfl | h
      · exact List.mem_cons_self ..
      · exact List.mem_cons_of_mem _ (ih h)
theorem lookD_drop_ne (h : j ≠ k) : lookD j (dropD k es) = lookD j es := by
  induction es with
  | nil => rfl
  | cons p es ih =>
    skip
    simp only [dropD]
    by_cases q : p.1 = k
    · subst q; simp [lookD, Ne.symm h]
    · simp only [q, if_false, lookD, ih]
theorem nodup_drop (hn : (keysD es).Nodup) : (keysD (dropD k es)).Nodup := by
  induction es with
  | nil => exact hn
  | cons p es ih =>
    skip
    simp only [keysD, List.map_cons, List.nodup_cons, dropD] at hn ih ⊢
    by_cases q : p.1 = k
    · simp only [q, if_true]; exact hn.2
    · simp only [q, if_false, List.map_cons, List.nodup_cons]
      refine ⟨fun h => hn.1 ?_, ih hn.2⟩
      refine Exists.elim (List.mem_map.mp h) ?_; rintro x hq0
      exact List.mem_map.mpr ⟨x, mem_drop hq0.1, hq0.2⟩
theorem lookD_drop (hn : (keysD es).Nodup) : lookD j (dropD k es) = if j = k then none else lookD j es := by
  by_cases q : j = k
  · subst q
    simp only [if_true]
    induction es with
    | nil => rfl
    | cons p es ih =>
      skip
      simp only [keysD, List.map_cons, List.nodup_cons, dropD] at hn ih ⊢
      by_cases q : p.1 = j
      · subst q; simp only [if_true]; exact lookD_none.mpr hn.1
      · simp only [q, if_false, lookD]; exact ih hn.2
  · simp only [q, if_false]; exact lookD_drop_ne q
theorem len_drop_le : (dropD k es).length ≤ es.length := by
  induction es with
  | nil => exact Nat.le_refl _
  | cons p es ih =>
    skip
    simp only [dropD]
    by_cases q : p.1 = k
    · simp [q]
    · simp [q]; exact ih
theorem len_drop (h : (lookD k es).isSome = true) : (dropD k es).length + 1 = es.length := by
  induction es with
  | nil => exact ff h
  | cons p es ih =>
    skip
    simp only [lookD, dropD] at h ⊢
    by_cases q : p.1 = k
    · simp [q]
    · simp only [q, if_false] at h ⊢; simp [ih h]
end
theorem len_le_of {α : Type} : ∀ {a b : List (Int × α)}, (keysD a).Nodup → (∀ j, (lookD j a).isSome = true → (lookD j b).isSome = true) → a.length ≤ b.length
  | [], b, _, _ => by simp
  | (k, v) :: a, b, hn, h => by
    simp only [keysD, List.map_cons, List.nodup_cons] at hn
    have hk : (lookD k b).isSome = true := h k (by simp [lookD])
    have := len_drop hk
    have ih := len_le_of (a := a) (b := dropD k b) hn.2 fun j hj => by
      have hne : j ≠ k := by
        rintro rfl
        have := lookD_none.mpr (show j ∉ keysD a from hn.1)
        rw [this] at hj; exact ff hj
      refine (Eq.symm (lookD_drop_ne hne)) ▸ ?_
      exact h j (by simp only [lookD]; rw [if_neg (Ne.symm hne)]; exact hj)
    simp; (first | lia | omega)
theorem eqD_refl {σ : View} {v : V} (h : Dat 20 v) : eqD σ v v = some true := by
  refine Exists.elim (h.toD (σ := σ)) ?_; rintro a hq0
  simp [eqD, hq0.1, hq0.2]
theorem eqAll_of {σ : View} {b : List (Int × V)} : ∀ {a : List (Int × V)}, (∀ p ∈ a, lookD p.1 b = some p.2 ∧ Dat 20 p.2) → eqAll σ b a = some true
  | [], _ => rfl
  | (k, v) :: a, h => by
    obtain ⟨h1, h2⟩ := h (k, v) (List.mem_cons_self ..)
    have ih := eqAll_of (σ := σ) (a := a) fun p hp => h p (List.mem_cons_of_mem _ hp)
    simp only [eqAll, h1, eqD_refl h2, ih]; rfl
/-- two dicts with the same entries are equal, whatever their orders -/
theorem eqDict_ext {σ : View} {a b : List (Int × V)} (ha : (keysD a).Nodup) (hb : (keysD b).Nodup) (h : ∀ j, lookD j a = lookD j b) (hd : ∀ p ∈ a, Dat 20 p.2) : eqDict σ a b = some true := by
  have h1 := len_le_of ha (b := b) fun j hj => ((h j) ▸ hj)
  have h2 := len_le_of hb (b := a) fun j hj => by rw [h j]; exact hj
  have e : a.length = b.length := by (first | lia | omega)
  simp only [eqDict, e, if_true]
  exact eqAll_of fun p hp => ⟨by rw [← h]; exact mem_lookD ha hp, hd p hp⟩
theorem eqV_dic {σ : View} {x y : V} {a b : List (Int × V)} (hx : dicOf σ x = some a) (hy : dicOf σ y = some b) : eqV σ x y = eqDict σ a b := by
  have hx0 : x.toD σ 20 = none := by
    cases x with
    | dct es => rfl
    | ref l =>
      refine Exists.elim (dicOf_ref hx) ?_; rintro ro e
      show ((match σ l with | some (.list _ xs) => some xs | _ => none).bind _) = none
      refine e ▸ ?_; rfl
    | _ => exact nn hx
  unfold eqV
  refine hx0 ▸ ?_; refine hx ▸ ?_; refine hy ▸ ?_; rfl
theorem Dat.mono {n m : Nat} {v : V} (h : Dat n v) (hm : n ≤ m) : Dat m v := by
  induction h generalizing m with
  | none => exact .none
  | bool b => exact .bool b
  | int i => exact .int i
  | str s => exact .str s
  | tup h ih => cases m with
    | zero => (first | lia | omega)
    | succ m => exact .tup fun x hx => ih x hx (by (first | lia | omega))
  | lst h ih => cases m with
    | zero => (first | lia | omega)
    | succ m => exact .lst fun x hx => ih x hx (by (first | lia | omega))
end

section

open PySem PyProof.Rows
set_option linter.unusedVariables false
set_option linter.unusedSimpArgs false
set_option maxRecDepth 100000
noncomputable def sLeaf : Str := Str.ofString "leaf"
noncomputable def sBranch : Str := Str.ofString "branch"
theorem leaf_ne : (sBranch = sLeaf) = False := by skip; decide +kernel
noncomputable def numF : V → Bool
  | .int i => decide (1 ≤ i)
  | _ => false
noncomputable def pairF (w : Str) : V → Bool
  | .tup [a, b] => keyF a && (if w = sLeaf then valueF b else numF b)
  | _ => false
noncomputable def keyOf : V → Int
  | .tup (.int k :: _) => k
  | _ => 0
noncomputable def risesF : List V → Bool
  | a :: b :: r => decide (keyOf a < keyOf b) && risesF (b :: r)
  | _ => true
noncomputable def blockF (t : V) (l m : Int) : Bool := match t with
  | .tup [.str w, .tup ps] => (decide (w = sLeaf) || decide (w = sBranch)) && (decide (l ≤ ps.length) && (decide ((ps.length : Int) ≤ m) && (ps.all (pairF w) && risesF ps)))
  | _ => false
theorem rises_iff {ps : List V} : risesF ps = true ↔ ∀ i, i + 1 < ps.length → keyOf (ps.getD i .none) < keyOf (ps.getD (i + 1) .none) := by
  induction ps with
  | nil => simp [risesF]
  | cons a r ih =>
    cases r with
    | nil => simp [risesF]
    | cons b r =>
      simp only [risesF, Bool.and_eq_true, decide_eq_true_eq, ih]
      constructor
      · rintro ⟨h1, h2⟩ i hi
        cases i with
        | zero => exact h1
        | succ i => exact h2 i (by simpa using hi)
      · intro h
        refine ⟨by exact h 0 (by simp), fun i hi => ?_⟩
        exact h (i + 1) (by simpa using hi)
/-- rises, of pairs with whole keys -/
noncomputable def risesS (xs : List V) (Q : Post) (σ : View) : Prop := ∃ ps d, xs = [d] ∧ (d = .tup ps ∨ d = .lst ps) ∧ ps.length ≤ big ∧ (∀ p ∈ ps, ∃ k r, p = .tup (.int k :: r)) ∧ Q (.bool (risesF ps)) σ
theorem risesS_mono {xs : List V} {Q Q' : Post} {σ : View} (h : risesS xs Q σ) (k : ∀ d σ', Q d σ' → Q' d σ') : risesS xs Q' σ := let ⟨v, d, h1, h2, h3, h4, h5⟩ := h; ⟨v, d, h1, h2, h3, h4, k _ _ h5⟩
theorem getD_mem {xs : List V} {i : Nat} (h : i < xs.length) : xs.getD i .none ∈ xs := by simp [h]
/-- is_pair -/
noncomputable def pairS (xs : List V) (Q : Post) (σ : View) : Prop := ∃ w t n, xs = [.str w, t] ∧ Dat n t ∧ Q (.bool (pairF w t)) σ
theorem pairS_mono {xs : List V} {Q Q' : Post} {σ : View} (h : pairS xs Q σ) (k : ∀ d σ', Q d σ' → Q' d σ') : pairS xs Q' σ := let ⟨w, t, n, h1, h2, h3⟩ := h; ⟨w, t, n, h1, h2, k _ _ h3⟩
noncomputable def mPair (w k v : Nat) : MSs := ss [
    .ite (.or (es [(.not (.op (.isinst "tuple") (es [(.var 1)]))), (.op .ne (es [(.op .len (es [(.var 1)])), (.lit (.int 2))])), (.not (.call k (es [(.op .item (es [(.var 1), (.lit (.int 0))]))])))])) (ss [
      .ret (.lit (.bool false))]) (ss []),
    .ite (.op .eq (es [(.var 0), (.lit (.str (Str.ofString "leaf")))])) (ss [
      .ret (.call v (es [(.op .item (es [(.var 1), (.lit (.int 1))]))]))]) (ss []),
    .ret (.and (es [(.call w (es [(.op .item (es [(.var 1), (.lit (.int 1))]))])), (.op .ge (es [(.op .item (es [(.var 1), (.lit (.int 1))])), (.lit (.int 1))]))]))]
theorem tup_of {v : V} (h : isTupF v = true) : ∃ xs, v = .tup xs := by
  cases v <;> first | exact ⟨_, rfl⟩ | exact ff h
theorem str_of {v : V} (h : isStrF v = true) : ∃ s, v = .str s := by
  cases v <;> first | exact ⟨_, rfl⟩ | exact ff h
theorem two_of {xs : List V} (h : xs.length = 2) : ∃ a b, xs = [a, b] := by
  match xs, h with
  | [a, b], _ => exact ⟨a, b, rfl⟩
theorem pairF_no {w : Str} {t : V} (h : ¬ ∃ a b, t = .tup [a, b]) : pairF w t = false := by
  unfold pairF
  split
  · rename_i a b; exact absurd ⟨a, b, rfl⟩ h
  · rfl
theorem pairS_ok (Φ : Spec) (hM : SpecMono Φ) (w k v : Nat) (hw : ∀ xs Q σ, wholeS xs Q σ → Φ w xs Q σ) (hk : ∀ xs Q σ, keyS xs Q σ → Φ k xs Q σ) (hv : ∀ xs Q σ, valueS xs Q σ → Φ v xs Q σ) (Gc : Nat → V) {xs : List V} {Q : Post} {σ : View} (h : pairS xs Q σ) : xs.length = 2 ∧ swps Φ Gc (mPair w k v) (fun σ' _ => Q .none σ') Q σ (argLs xs) := by
  obtain ⟨word, t, n, rfl, hd, h⟩ := h
  refine ⟨rfl, ?_⟩
  delta mPair ss
  simp only [List.foldr]
  cases ht : isTupF t with
  | false =>
    rw [pairF_no fun hx => by obtain ⟨a, b, e⟩ := hx; exact by rw [e] at ht; cases ht] at h
    refine c_ite_ret hM ?_ h
    sizeOf_list_dec
    refine opt_map (ty_tup hd.plain) ?_
    refine ht ▸ ?_
    exact ⟨rfl, rfl⟩
  | true =>
    refine Exists.elim (tup_of ht) fun ts hx => ?_; obtain rfl := hx
    by_cases q : (ts.length : Int) = 2
    · refine Exists.elim (two_of (Int.ofNat.inj q)) fun a hx => ?_; obtain ⟨b, rfl⟩ := hx
      have hab : plainV a = true ∧ plainV b = true := by
        cases hd with
        | tup h => exact ⟨(h a (.head _)).plain, (h b (.tail _ (.head _))).plain⟩
      have test : ∀ Q' : Bool → View → Prop, Q' (!keyF a) σ → ctwp Φ Gc (argLs [.str word, .tup [a, b]]) (.or (es [(.not (.op (.isinst "tuple") (es [(.var 1)]))), (.op .ne (es [(.op .len (es [(.var 1)])), (.lit (.int 2))])), (.not (.call k (es [(.op .item (es [(.var 1), (.lit (.int 0))]))])))])) Q' σ := fun Q' hq => by
        sizeOf_list_dec
        refine opt_map (a := true) (ty_tup (v := .tup [a, b]) rfl) ?_
        exact hk _ _ _ ⟨a, rfl, hab.1, hq⟩
      have h : Q (.bool (keyF a && (if word = sLeaf then valueF b else numF b))) σ := h
      cases hka : keyF a with
      | false =>
        rw [hka] at h
        exact c_ite_ret hM (test _ ⟨rfl, by rw [hka]; rfl⟩) h
      | true =>
        rw [hka, Bool.true_and] at h
        refine c_guard hM (test _ ⟨rfl, by rw [hka]; rfl⟩) ?_
        by_cases r : word = sLeaf
        · replace h := (if_pos r) ▸ h
          refine c_ite_ret hM ?_ ?_
          · sizeOf_list_dec
            exact ⟨rfl, decide_eq_true r⟩
          · sizeOf_list_dec
            exact hv _ _ _ ⟨b, rfl, hab.2, h⟩
        · replace h := (if_neg r) ▸ h
          refine c_guard hM ?_ ?_
          · sizeOf_list_dec
            exact ⟨rfl, decide_eq_false r⟩
          refine c_ret hM ?_
          sizeOf_list_dec
          refine hw _ _ _ ⟨b, rfl, hab.2, ?_⟩
          cases b with
          | int i => exact h
          | _ => exact h
    · rw [pairF_no fun hx => by obtain ⟨a, b, e⟩ := hx; exact q (by cases e; rfl)] at h
      refine c_ite_ret hM ?_ h
      sizeOf_list_dec
      refine opt_map (a := true) (ty_tup (v := .tup ts) rfl) ?_
      sizeOf_list_dec
      refine (decide_eq_false q) ▸ ?_
      exact ⟨rfl, rfl⟩
noncomputable def blockS (xs : List V) (Q : Post) (σ : View) : Prop := ∃ t l m n, xs = [t, .int l, .int m] ∧ Dat n t ∧ (∀ w ps, t = .tup [w, .tup ps] → ps.length ≤ big) ∧ Q (.bool (blockF t l m)) σ
theorem blockS_mono {xs : List V} {Q Q' : Post} {σ : View} (h : blockS xs Q σ) (k : ∀ d σ', Q d σ' → Q' d σ') : blockS xs Q' σ := let ⟨w, t, m, n, h1, h2, h3, h4⟩ := h; ⟨w, t, m, n, h1, h2, h3, k _ _ h4⟩
noncomputable def mBlock (p r : Nat) : MSs := ss [
    .ite (.or (es [(.not (.op (.isinst "tuple") (es [(.var 0)]))), (.op .ne (es [(.op .len (es [(.var 0)])), (.lit (.int 2))]))])) (ss [
      .ret (.lit (.bool false))]) (ss []),
    .assign 3 (.op .item (es [(.var 0), (.lit (.int 0))])),
    .assign 4 (.op .item (es [(.var 0), (.lit (.int 1))])),
    .ite (.or (es [(.not (.op (.isinst "str") (es [(.var 3)]))), (.op .notIn (es [(.var 3), (.op .mkTup (es [(.lit (.str (Str.ofString "leaf"))), (.lit (.str (Str.ofString "branch")))]))])), (.not (.op (.isinst "tuple") (es [(.var 4)])))])) (ss [
      .ret (.lit (.bool false))]) (ss []),
    .ite (.or (es [(.op .lt (es [(.op .len (es [(.var 4)])), (.var 1)])), (.op .gt (es [(.op .len (es [(.var 4)])), (.var 2)]))])) (ss [
      .ret (.lit (.bool false))]) (ss []),
    .ret (.and (es [(.op .all (es [(.comp false (.call p (es [(.var 3), (.var 5)])) (.one 5) (.seq (.var 4)) (es []))])), (.call r (es [(.var 4)]))]))]
theorem pair_key {w : Str} {p : V} (h : pairF w p = true) : ∃ k b, p = .tup [.int k, b] := by
  unfold pairF at h
  split at h
  · rename_i a b
    simp only [Bool.and_eq_true] at h
    cases a with
    | int k => exact ⟨k, b, rfl⟩
    | _ => simp [keyF] at h
  · cases h
theorem blockF_no {t : V} {l m : Int} (h : ∀ w ps, (w = sLeaf ∨ w = sBranch) → t = .tup [.str w, .tup ps] → False) : blockF t l m = false := by
  unfold blockF
  split
  · rename_i w ps
    have h1 : ¬ w = sLeaf := fun e => h w ps (.inl e) rfl
    have h2 : ¬ w = sBranch := fun e => h w ps (.inr e) rfl
    rw [decide_eq_false h1, decide_eq_false h2]; rfl
  · rfl
theorem kind_in (w : Str) : inV σ (.str w) (.tup [.str (Str.ofString "leaf"), .str (Str.ofString "branch")]) = some ([Str.ofString "leaf", Str.ofString "branch"].contains w) := rfl
theorem kind_yes {w : Str} (h : w = sLeaf ∨ w = sBranch) : ([Str.ofString "leaf", Str.ofString "branch"].contains w) = true := by
  rcases h with rfl | rfl <;> decide +kernel
theorem kind_no {w : Str} (h : ¬ (w = sLeaf ∨ w = sBranch)) : ([Str.ofString "leaf", Str.ofString "branch"].contains w) = false := by
  simp only [not_or] at h
  simp only [List.contains_cons, List.contains_nil, Bool.or_false, Bool.or_eq_false_iff, beq_eq_false_iff_ne]
  exact h
theorem blockS_ok (Φ : Spec) (hM : SpecMono Φ) (p r : Nat) (hp : ∀ xs Q σ, pairS xs Q σ → Φ p xs Q σ) (hr : ∀ xs Q σ, risesS xs Q σ → Φ r xs Q σ) (Gc : Nat → V) {xs : List V} {Q : Post} {σ : View} (h : blockS xs Q σ) : xs.length = 3 ∧ swps Φ Gc (mBlock p r) (fun σ' _ => Q .none σ') Q σ (argLs xs) := by
  obtain ⟨t, l, m, n, rfl, hd, hlen, h⟩ := h
  refine ⟨rfl, ?_⟩
  unfold mBlock ss
  simp only [List.foldr]
  cases ht : isTupF t with
  | false =>
    rw [blockF_no fun ws ps _ e => by rw [e] at ht; cases ht] at h
    refine c_ite_ret hM ?_ h
    sizeOf_list_dec
    refine opt_map (ty_tup hd.plain) ?_
    rw [ht]
    exact ⟨rfl, rfl⟩
  | true =>
    obtain ⟨ts, rfl⟩ := tup_of ht
    by_cases q : (ts.length : Int) = 2
    · obtain ⟨w, row, rfl⟩ := two_of (Int.ofNat.inj q)
      obtain ⟨k, hw, hrow⟩ : ∃ k, Dat k w ∧ Dat k row := by cases hd with | tup hd => exact ⟨_, hd w (.head _), hd row (.tail _ (.head _))⟩
      refine c_guard hM ?_ ?_
      · sizeOf_list_dec
        refine opt_map (a := true) (ty_tup (v := .tup [w, row]) rfl) ?_
        exact ⟨rfl, rfl⟩
      refine c_assign hM (fun d => d = w) ?_ ?_
      · sizeOf_list_dec
        exact ⟨rfl, rfl⟩
      intro d ed; rw [ed]; clear ed d
      refine c_assign hM (fun d => d = row) ?_ ?_
      · sizeOf_list_dec
        exact ⟨rfl, rfl⟩
      intro d ed; rw [ed]; clear ed d
      cases hs : isStrF w with
      | false =>
        rw [blockF_no fun ws ps _ e => by cases e; cases hs] at h
        refine c_ite_ret hM ?_ h
        sizeOf_list_dec
        refine opt_map (ty_str hw.plain) ?_
        refine hs ▸ ?_
        exact ⟨rfl, rfl⟩
      | true =>
        refine Exists.elim (str_of hs) fun ws hx => ?_; obtain rfl := hx
        by_cases q2 : ws = sLeaf ∨ ws = sBranch
        · cases hr2 : isTupF row with
          | false =>
            rw [blockF_no fun ws ps _ e => by cases e; cases hr2] at h
            refine c_ite_ret hM ?_ h
            sizeOf_list_dec
            refine opt_map (a := true) (ty_str (v := .str ws) rfl) ?_
            sizeOf_list_dec
            refine opt_map (a := true) (by rw [kind_in, kind_yes q2]) ?_
            sizeOf_list_dec
            refine opt_map (ty_tup hrow.plain) ?_
            refine hr2 ▸ ?_
            exact ⟨rfl, rfl⟩
          | true =>
            refine Exists.elim (tup_of hr2) fun ps hx => ?_; obtain rfl := hx
            refine c_guard hM ?_ ?_
            · sizeOf_list_dec
              refine opt_map (a := true) (ty_str (v := .str ws) rfl) ?_
              sizeOf_list_dec
              refine opt_map (a := true) (by rw [kind_in, kind_yes q2]) ?_
              sizeOf_list_dec
              refine opt_map (a := true) (ty_tup (v := .tup ps) rfl) ?_
              exact ⟨rfl, rfl⟩
            have e3 : (decide (ws = sLeaf) || decide (ws = sBranch)) = true := by
              rcases q2 with rfl | rfl <;> decide +kernel
            have h : Q (.bool ((decide (ws = sLeaf) || decide (ws = sBranch)) && (decide (l ≤ ps.length) && (decide ((ps.length : Int) ≤ m) && (ps.all (pairF ws) && risesF ps))))) σ := h
            rw [e3, Bool.true_and] at h
            by_cases q3 : (ps.length : Int) < l
            · rw [decide_eq_false (Int.not_le.mpr q3), Bool.false_and] at h
              refine c_ite_ret hM ?_ h
              sizeOf_list_dec
              refine (Eq.symm (decide_eq_true q3)) ▸ ?_
              exact ⟨rfl, rfl⟩
            rw [decide_eq_true (Int.not_lt.mp q3), Bool.true_and] at h
            by_cases q4 : m < (ps.length : Int)
            · rw [decide_eq_false (Int.not_le.mpr q4), Bool.false_and] at h
              refine c_ite_ret hM ?_ h
              sizeOf_list_dec
              refine (decide_eq_false q3) ▸ ?_
              exact ⟨rfl, decide_eq_true q4⟩
            rw [decide_eq_true (Int.not_lt.mp q4), Bool.true_and] at h
            refine c_guard hM ?_ ?_
            · sizeOf_list_dec
              refine (Eq.symm (decide_eq_false q3)) ▸ ?_
              exact ⟨rfl, decide_eq_false q4⟩
            refine c_ret hM ?_
            sizeOf_list_dec
            cases hrow with
            | tup hps =>
              refine w_comp_m hM (xs := ps) (fun v => .bool (pairF ws v)) ⟨_, rfl, rfl, .inr rfl⟩ (hlen _ _ rfl) (fun v hv => cwp_e hM _ (hp _ _ _ ⟨ws, v, _, rfl, hps v hv, rfl, rfl⟩)) ?_
              sizeOf_list_dec
              refine opt_of (a := .bool (ps.all (pairF ws))) (by show (bools? (ps.map fun v => V.bool (pairF ws v))).map _ = _; rw [bools_map]; show some (V.bool ((ps.map (pairF ws)).all id)) = _; exact List.all_map ▸ rfl) ?_
              sizeOf_list_dec
              cases q5 : ps.all (pairF ws) with
              | false => rw [q5] at h; exact h
              | true =>
                rw [q5, Bool.true_and] at h
                refine hr _ _ _ ⟨ps, _, rfl, .inl rfl, hlen _ _ rfl, fun p hp => ?_, h⟩
                refine Exists.elim (pair_key (List.all_eq_true.mp q5 p hp)) fun k hx => ?_; obtain ⟨b, e⟩ := hx
                exact ⟨k, [b], e⟩
        · rw [blockF_no fun ws' ps hk e => by cases e; exact q2 hk] at h
          refine c_ite_ret hM ?_ h
          sizeOf_list_dec
          refine opt_map (a := true) (ty_str (v := .str ws) rfl) ?_
          sizeOf_list_dec
          refine opt_map (a := false) (by rw [kind_in, kind_no q2]) ?_
          exact ⟨rfl, rfl⟩
    · rw [blockF_no fun ws ps _ e => q (by cases e; rfl)] at h
      refine c_ite_ret hM ?_ h
      sizeOf_list_dec
      refine opt_map (a := true) (ty_tup (v := .tup ts) rfl) ?_
      sizeOf_list_dec
      refine (decide_eq_false q) ▸ ?_
      exact ⟨rfl, rfl⟩
end

section

open PySem PyProof.Rows
set_option linter.unusedVariables false
set_option linter.unusedSimpArgs false
/-! trees of blocks, as lists of entries -/
noncomputable abbrev Dct := List (Int × V)
noncomputable def isBr : V → Bool
  | .tup [.str w, .tup _] => decide (w = sBranch)
  | _ => false
noncomputable def isLf : V → Bool
  | .tup [.str w, .tup _] => decide (w = sLeaf)
  | _ => false
noncomputable def rowV : V → List V
  | .tup [_, .tup ps] => ps
  | _ => []
noncomputable def numOf : V → Int
  | .tup [_, .int n] => n
  | _ => 0
noncomputable def fstK (b : V) : Int := keyOf ((rowV b).getD 0 .none)
noncomputable def halfI (w : Int) : Int := (w + 1) / 2
noncomputable def fitF (k : Int) (b : V) (w : Int) : Bool := if k = 0 then blockF b 0 w && (isLf b || decide (2 ≤ (rowV b).length)) else blockF b (halfI w) w
noncomputable def blk (es : Dct) (n : Int) : V := (lookD n es).getD .none
noncomputable def rowsOf (es : Dct) (row : List Int) : List V := row.flatMap fun n => rowV (blk es n)
noncomputable def belowF (es : Dct) (row : List Int) : List Int := (rowsOf es row).map numOf
noncomputable def prsOf (es : Dct) : List V := es.flatMap fun p => if isBr p.2 then rowV p.2 else []
noncomputable def NamedOk (es : Dct) : Prop := ((prsOf es).map numOf).Nodup ∧ ∀ p ∈ prsOf es, ∃ b, lookD (numOf p) es = some b ∧ fstK b = keyOf p
inductive Lev (es : Dct) : List Int → Nat → Bool → Prop
  | stop {n : Int} {row : List Int} {m : Nat} : (n :: row).length ≤ 10000 → isBr (blk es n) = false → Lev es (n :: row) m ((n :: row).all (fun n => isLf (blk es n)) && (decide (m = es.length) && risesF (rowsOf es (n :: row))))
  | mix {n : Int} {row : List Int} {m : Nat} : (n :: row).length ≤ 10000 → isBr (blk es n) = true → (n :: row).all (fun n => isBr (blk es n)) = false → Lev es (n :: row) m false
  | down {n : Int} {row : List Int} {m : Nat} {r : Bool} : (n :: row).length ≤ 10000 → isBr (blk es n) = true → (n :: row).all (fun n => isBr (blk es n)) = true → Lev es (belowF es (n :: row)) (m + (belowF es (n :: row)).length) r → Lev es (n :: row) m r
/-- the same, with the number of rows -/
inductive LevN (es : Dct) : Nat → List Int → Nat → Bool → Prop
  | stop {n : Int} {row : List Int} {m k : Nat} : (n :: row).length ≤ 10000 → isBr (blk es n) = false → LevN es k (n :: row) m ((n :: row).all (fun n => isLf (blk es n)) && (decide (m = es.length) && risesF (rowsOf es (n :: row))))
  | mix {n : Int} {row : List Int} {m k : Nat} : (n :: row).length ≤ 10000 → isBr (blk es n) = true → (n :: row).all (fun n => isBr (blk es n)) = false → LevN es k (n :: row) m false
  | down {n : Int} {row : List Int} {m k : Nat} {r : Bool} : (n :: row).length ≤ 10000 → isBr (blk es n) = true → (n :: row).all (fun n => isBr (blk es n)) = true → LevN es k (belowF es (n :: row)) (m + (belowF es (n :: row)).length) r → LevN es (k + 1) (n :: row) m r
theorem LevN.of {es : Dct} {row : List Int} {m : Nat} {r : Bool} (h : Lev es row m r) : ∃ k, LevN es k row m r := by
  induction h with
  | stop a b => exact ⟨0, .stop a b⟩
  | mix a b c => exact ⟨0, .mix a b c⟩
  | down a b c d ih => refine Exists.elim ih ?_; rintro k ih; exact ⟨k + 1, .down a b c ih⟩
inductive SoundR (es : Dct) (w : Int) : Bool → Prop
  | nozero : lookD 0 es = none → SoundR es w false
  | unfit {p : Int × V} : p ∈ es → fitF p.1 p.2 w = false → SoundR es w false
  | unnamed : (∀ p ∈ es, fitF p.1 p.2 w = true) → ¬ NamedOk es → SoundR es w false
  | lev {r : Bool} : (lookD 0 es).isSome = true → (∀ p ∈ es, fitF p.1 p.2 w = true) → NamedOk es → Lev es [0] 1 r → SoundR es w r
inductive Chain (es : Dct) : List Int → List V → Nat → Prop
  | leaf {row : List Int} : row ≠ [] → (∀ n ∈ row, isLf (blk es n) = true) → Chain es row (rowsOf es row) row.length
  | branch {row : List Int} {ps : List V} {m : Nat} : row ≠ [] → (∀ n ∈ row, isBr (blk es n) = true) → Chain es (belowF es row) ps m → Chain es row ps (row.length + m)
inductive Reach (es : Dct) (n : Int) : List Int → Prop
  | here {row : List Int} : n ∈ row → Reach es n row
  | next {row : List Int} : (∀ m ∈ row, isBr (blk es m) = true) → Reach es n (belowF es row) → Reach es n row
theorem br_lf {b : V} (h : isBr b = true) : isLf b = false := by
  unfold isBr at h
  split at h
  · have := of_decide_eq_true h
    subst this
    show decide (sBranch = sLeaf) = false
    exact decide_eq_false ((leaf_ne ▸ id))
  · exact ff h
theorem lf_br {b : V} (h : isLf b = true) : isBr b = false := by
  cases q : isBr b with
  | false => rfl
  | true => exact ff (Eq.trans (Eq.symm (br_lf q)) h)
theorem blk_some {es : Dct} {n : Int} {b : V} (h : lookD n es = some b) : blk es n = b := by unfold blk; exact h ▸ rfl
theorem look_br {es : Dct} {n : Int} (h : isBr (blk es n) = true) : lookD n es = some (blk es n) := by
  unfold blk at *
  cases q : lookD n es with
  | none => rw [q] at h; exact ff h
  | some b => rfl
theorem look_lf {es : Dct} {n : Int} (h : isLf (blk es n) = true) : lookD n es = some (blk es n) := by
  unfold blk at *
  cases q : lookD n es with
  | none => rw [q] at h; exact ff h
  | some b => rfl
theorem blk_mem {es : Dct} {n : Int} (h : isBr (blk es n) = true ∨ isLf (blk es n) = true) : (n, blk es n) ∈ es := lookD_some_mem (h.elim look_br look_lf)
theorem mem_prs {es : Dct} {p : V} : p ∈ prsOf es ↔ ∃ q ∈ es, isBr q.2 = true ∧ p ∈ rowV q.2 := by
  unfold prsOf
  simp only [List.mem_flatMap]
  constructor
  · rintro ⟨q, hq, h⟩
    cases hb : isBr q.2 with
    | true => rw [hb] at h; exact ⟨q, hq, hb, h⟩
    | false => rw [hb] at h; cases h
  · rintro ⟨q, hq, hb, h⟩; exact ⟨q, hq, by rw [hb]; exact h⟩
theorem Chain.le {es : Dct} {row : List Int} {ps : List V} {m : Nat} (h : Chain es row ps m) : row.length ≤ m := by cases h <;> (first | exact Nat.le_refl _ | solve_by_elim (maxDepth := 2) [Nat.le_of_lt, Nat.le_trans, Nat.lt_of_lt_of_le, Nat.lt_of_le_of_lt, Nat.le_succ_of_le, Nat.lt_succ_of_le, Nat.le_of_succ_le, Nat.le_of_lt_succ, Nat.not_lt.mp, Nat.not_le.mp, Nat.le_add_right, Nat.le_add_left, Nat.sub_le])
theorem Chain.lev {es : Dct} {row : List Int} {ps : List V} {m : Nat} (h : Chain es row ps m) (hm : m ≤ 10000) : ∀ k, Lev es row k (decide (k + (m - row.length) = es.length) && risesF ps) := by
  induction h with
  | leaf h0 h =>
    rename_i row
    intro k
    cases row with
    | nil => exact absurd rfl h0
    | cons n row =>
      have h1 : isBr (blk es n) = false := lf_br (h n (.head _))
      have h2 := Lev.stop (es := es) (row := row) (m := k) hm h1
      rw [show (n :: row).all (fun n => isLf (blk es n)) = true from List.all_eq_true.mpr h] at h2
      simpa using h2
  | branch h0 h hc ih =>
    rename_i row ps m
    intro k
    cases row with
    | nil => exact absurd rfl h0
    | cons n row =>
      have := hc.le
      have ih := ih (by (first | lia | omega)) (k + (belowF es (n :: row)).length)
      rw [show k + (belowF es (n :: row)).length + (m - (belowF es (n :: row)).length) = k + ((n :: row).length + m - (n :: row).length) by (first | lia | omega)] at ih
      exact .down (by (first | lia | omega)) (h n (.head _)) (List.all_eq_true.mpr h) ih
/-- a branch does not name itself -/
theorem Chain.noself {es : Dct} {row : List Int} {ps : List V} {m : Nat} (h : Chain es row ps m) {n : Int} (hr : Reach es n row) (hb : isBr (blk es n) = true) (hs : n ∈ (rowV (blk es n)).map numOf) : False := by
  have go : ∀ {row ps m}, Chain es row ps m → n ∈ row → False := by
    intro row ps m h
    induction h with
    | leaf _ h => intro hn; have := br_lf hb; rw [h n hn] at this; cases this
    | branch _ h _ ih =>
      intro hn
      apply ih
      obtain ⟨p, hp, e⟩ := List.mem_map.mp hs
      exact List.mem_map.mpr ⟨p, List.mem_flatMap.mpr ⟨n, hn, hp⟩, e⟩
  induction hr generalizing ps m with
  | here hn => exact go h hn
  | next ha hr ih =>
    cases h with
    | leaf h0 h =>
      rename_i row
      cases row with
      | nil => exact h0 rfl
      | cons x row => have := br_lf (ha x (.head _)); rw [h x (.head _)] at this; cases this
    | branch _ _ hc => exact ih hc
theorem Reach.parent {es : Dct} {n : Int} {row : List Int} (h : Reach es n row) : n ∈ row ∨ ∃ m, isBr (blk es m) = true ∧ n ∈ (rowV (blk es m)).map numOf := by
  induction h with
  | here h => exact .inl h
  | next ha hr ih =>
    rcases ih with h | h
    · refine Exists.elim (List.mem_map.mp h) ?_; rintro p hq1
      obtain ⟨m, hq0⟩ := List.mem_flatMap.mp hq1.1
      exact .inr ⟨m, ha m hq0.1, List.mem_map.mpr ⟨p, hq0.2, hq1.2⟩⟩
    · exact .inr h
/-- what the builder gives; `ps`: all pairs of its leaves -/
structure Tree (es : Dct) (ps : List V) (w : Int) : Prop where
  nd : (keysD es).Nodup
  fit : ∀ p ∈ es, fitF p.1 p.2 w = true
  named : NamedOk es
  chain : Chain es [0] ps es.length
  reach : ∀ k ∈ keysD es, Reach es k [0]
  dat : ∀ p ∈ es, Dat 4 p.2
  pos : ∀ k ∈ keysD es, 0 ≤ k
  len : es.length ≤ 10000
theorem SoundR.cases {es : Dct} {w : Int} {r : Bool} (h : (∀ p ∈ es, fitF p.1 p.2 w = true) → NamedOk es → (lookD 0 es).isSome = true → Lev es [0] 1 r) (hr : r = false) : SoundR es w false := by
  subst hr
  cases h0 : lookD 0 es with
  | none => exact .nozero h0
  | some b =>
    by_cases hf : ∀ p ∈ es, fitF p.1 p.2 w = true
    · by_cases hn : NamedOk es
      · exact .lev (by rw [h0]; rfl) hf hn (h hf hn (by rw [h0]; rfl))
      · exact .unnamed hf hn
    · have : ∃ p, p ∈ es ∧ fitF p.1 p.2 w = false := by
        apply Classical.byContradiction
        intro hc
        apply hf
        intro p hp
        cases q : fitF p.1 p.2 w with
        | true => rfl
        | false => exact absurd ⟨p, hp, q⟩ hc
      refine Exists.elim this ?_; rintro p hq0
      exact .unfit hq0.1 hq0.2
section
variable {es es' : Dct} {ps : List V} {w : Int} {row : List Int} {m : Nat} {n : Int}
theorem Tree.zero (T : Tree es ps w) : (lookD 0 es).isSome = true := by
  have h := T.chain
  generalize hl : es.length = k at h
  cases h with
  | leaf _ h => exact congrArg _ (look_lf (h 0 (.head _)))
  | branch _ h _ => exact congrArg _ (look_br (h 0 (.head _)))
theorem Tree.sound (T : Tree es ps w) (hr : risesF ps = true) {w' : Int} (hf : ∀ p ∈ es, fitF p.1 p.2 w' = true) : SoundR es w' true := by
  have h := T.chain.lev T.len 1
  have := T.chain.le
  simp only [hr, Bool.and_true, decide_eq_true (show 1 + (es.length - [(0 : Int)].length) = es.length by simp at this ⊢; (first | lia | omega))] at h
  exact .lev T.zero hf T.named h
/-- what agrees on the keys of a chain has it too -/
theorem rows_congr (h : ∀ n ∈ row, blk es' n = blk es n) : rowsOf es' row = rowsOf es row := by
  induction row with
  | nil => rfl
  | cons x row ih => simp only [rowsOf, List.flatMap_cons] at ih ⊢; simp only [h x (.head _), ih fun n hn => h n (.tail _ hn)]
theorem Chain.congr (hc : Chain es row ps m) (h : ∀ n, (isBr (blk es n) = true ∨ isLf (blk es n) = true) → blk es' n = blk es n) : Chain es' row ps m := by
  induction hc with
  | leaf h0 hl =>
    rename_i row
    rw [← rows_congr (es' := es') fun n hn => h n (.inr (hl n hn))]
    exact .leaf h0 fun n hn => by rw [h n (.inr (hl n hn))]; exact hl n hn
  | branch h0 hb hc ih =>
    rename_i row ps m
    refine .branch h0 (fun n hn => by rw [h n (.inl (hb n hn))]; exact hb n hn) ?_
    unfold belowF at ih ⊢
    rw [rows_congr (es := es) fun n hn => h n (.inl (hb n hn))]; exact ih
/-- more blocks than the tree's: they hang nowhere -/
theorem Tree.more (T : Tree es ps w) (h : ∀ n b, lookD n es = some b → lookD n es' = some b) (hl : es'.length ≠ es.length) {w' : Int} : SoundR es' w' false := by
  have hb : ∀ n, (isBr (blk es n) = true ∨ isLf (blk es n) = true) → blk es' n = blk es n := fun n hn => blk_some (h n _ (hn.elim look_br look_lf))
  have hc := (T.chain.congr hb).lev T.len 1
  have := T.chain.le
  simp only [decide_eq_false (show ¬ 1 + (es.length - [(0 : Int)].length) = es'.length by simp at this ⊢; (first | lia | omega)), Bool.false_and] at hc
  exact SoundR.cases (fun _ _ _ => hc) rfl
theorem blk_put {k : Int} {v : V} : blk (putD k v es) n = if n = k then v else blk es n := by
  unfold blk; rw [lookD_put]; split <;> rfl
/-- a block of another kind among the leaves -/
theorem Chain.mixed (hc : Chain es row ps m) (hr : Reach es n row) (hn : isLf (blk es n) = true) (hne : ∃ x ∈ row, x ≠ n) (hbr : ∀ x, isBr (blk es x) = true → ∃ y ∈ (rowV (blk es x)).map numOf, y ≠ n)
    (h : ∀ x, x ≠ n → (isBr (blk es x) = true ∨ isLf (blk es x) = true) → blk es' x = blk es x) (hb : isBr (blk es' n) = true) (hm : m ≤ 10000) : ∀ k, Lev es' row k false := by
  induction hc with
  | leaf h0 hl =>
    rename_i row
    intro k
    have hmem : n ∈ row := by
      cases hr with
      | here h => exact h
      | next ha _ =>
        cases row with
        | nil => exact absurd rfl h0
        | cons x r => have := br_lf (ha x (.head _)); rw [hl x (.head _)] at this; cases this
    have ho : ∀ y ∈ row, y ≠ n → isBr (blk es' y) = false := fun y hy hq => by rw [h y hq (.inr (hl y hy))]; exact lf_br (hl y hy)
    cases row with
    | nil => exact absurd rfl h0
    | cons x r =>
      by_cases q : x = n
      · refine .mix hm (by rw [q]; exact hb) ?_
        obtain ⟨y, hy, hq⟩ := hne
        cases hh : (x :: r).all (fun n => isBr (blk es' n)) with
        | false => rfl
        | true => have := List.all_eq_true.mp hh y hy; rw [ho y hy hq] at this; cases this
      · have h1 := Lev.stop (es := es') (row := r) (m := k) hm (ho x (.head _) q)
        have h2 : (x :: r).all (fun n => isLf (blk es' n)) = false := by
          cases hh : (x :: r).all (fun n => isLf (blk es' n)) with
          | false => rfl
          | true => have := List.all_eq_true.mp hh n hmem; rw [br_lf hb] at this; cases this
        rw [h2, Bool.false_and] at h1; exact h1
  | branch h0 hbb hc ih =>
    rename_i row ps m
    intro k
    have hnn : ∀ x ∈ row, x ≠ n := fun x hx e => by subst e; have := br_lf (hbb x hx); rw [hn] at this; cases this
    have hk : ∀ x ∈ row, blk es' x = blk es x := fun x hx => h x (hnn x hx) (.inl (hbb x hx))
    cases hr with
    | here hq => exact absurd rfl (hnn n hq)
    | next ha hr =>
      cases row with
      | nil => exact absurd rfl h0
      | cons x r =>
        have hle := hc.le
        refine .down (by (first | lia | omega)) (by rw [hk x (.head _)]; exact hbb x (.head _)) (List.all_eq_true.mpr fun y hy => by rw [hk y hy]; exact hbb y hy) ?_
        have e : belowF es' (x :: r) = belowF es (x :: r) := by unfold belowF; rw [rows_congr hk]
        rw [e]
        refine ih hr ?_ (by (first | lia | omega)) _
        obtain ⟨y, hy, hq⟩ := hbr x (hbb x (.head _))
        obtain ⟨p, hp, e⟩ := List.mem_map.mp hy
        exact ⟨y, List.mem_map.mpr ⟨p, List.mem_flatMap.mpr ⟨x, .head _, hp⟩, e⟩, hq⟩
theorem last_split {n : Int} : ∀ {l : List Int}, n ∈ l → ∃ a b, l = a ++ n :: b ∧ n ∉ b
  | x :: l, h => by
    by_cases q : n ∈ l
    · obtain ⟨a, b, e, hb⟩ := last_split q
      exact ⟨x :: a, b, by rw [e]; rfl, hb⟩
    · rcases List.mem_cons.mp h with e | h
      · exact ⟨[], l, by rw [e]; rfl, q⟩
      · exact absurd h q
theorem rows_app {a b : List Int} : rowsOf es (a ++ b) = rowsOf es a ++ rowsOf es b := by simp [rowsOf]
theorem rows_cons {a : Int} {b : List Int} : rowsOf es (a :: b) = rowV (blk es a) ++ rowsOf es b := by rfl
/-- a leaf whose pairs no longer go with the next one's -/
theorem Chain.unrising (hc : Chain es row ps m) (hr : Reach es n row) (hn : isLf (blk es n) = true)
    (h : ∀ x, x ≠ n → (isBr (blk es x) = true ∨ isLf (blk es x) = true) → blk es' x = blk es x) (hl' : isLf (blk es' n) = true)
    (bad : ∀ A B, ps = A ++ (rowV (blk es n) ++ B) → ∀ A', risesF (A' ++ (rowV (blk es' n) ++ B)) = false) (hm : m ≤ 10000) : ∀ k, Lev es' row k false := by
  induction hc with
  | leaf h0 hl =>
    rename_i row
    intro k
    have hmem : n ∈ row := by
      cases hr with
      | here h => exact h
      | next ha _ =>
        cases row with
        | nil => exact absurd rfl h0
        | cons x r => have := br_lf (ha x (.head _)); rw [hl x (.head _)] at this; cases this
    have hm' := hm
    have hnb : ∀ x ∈ row, isBr (blk es' x) = false := fun x hx => by
      by_cases q : x = n
      · rw [q]; exact lf_br hl'
      · rw [h x q (.inr (hl x hx))]; exact lf_br (hl x hx)
    obtain ⟨a, b, e, hb⟩ := last_split hmem
    have hrise : risesF (rowsOf es' row) = false := by
      have e1 : rowsOf es row = rowsOf es a ++ (rowV (blk es n) ++ rowsOf es b) := by rw [e, rows_app, rows_cons]
      have e2 : rowsOf es' row = rowsOf es' a ++ (rowV (blk es' n) ++ rowsOf es b) := by
        rw [e, rows_app, rows_cons, rows_congr (row := b) fun x hx => h x (fun q => hb (q ▸ hx)) (.inr (hl x (by rw [e]; exact List.mem_append_right _ (.tail _ hx))))]
      rw [e2]; exact bad _ _ e1 _
    cases row with
    | nil => exact absurd rfl h0
    | cons x r =>
      have h1 := Lev.stop (es := es') (row := r) (m := k) hm' (hnb x (.head _))
      rw [hrise, Bool.and_false, Bool.and_false] at h1; exact h1
  | branch h0 hbb hc ih =>
    rename_i row ps m
    intro k
    have hnn : ∀ x ∈ row, x ≠ n := fun x hx e => by subst e; have := br_lf (hbb x hx); rw [hn] at this; cases this
    have hk : ∀ x ∈ row, blk es' x = blk es x := fun x hx => h x (hnn x hx) (.inl (hbb x hx))
    cases hr with
    | here hq => exact absurd rfl (hnn n hq)
    | next ha hr =>
      cases row with
      | nil => exact absurd rfl h0
      | cons x r =>
        have hle := hc.le
        refine .down (by (first | lia | omega)) (by rw [hk x (.head _)]; exact hbb x (.head _)) (List.all_eq_true.mpr fun y hy => by rw [hk y hy]; exact hbb y hy) ?_
        have e : belowF es' (x :: r) = belowF es (x :: r) := by unfold belowF; rw [rows_congr hk]
        rw [e]
        exact ih hr bad (by (first | lia | omega)) _
theorem rises_bad {a b : V} (h : keyOf b ≤ keyOf a) : ∀ {L R : List V}, risesF (L ++ a :: b :: R) = false
  | [], R => by show (decide (keyOf a < keyOf b) && _) = false; rw [decide_eq_false (by (first | lia | omega))]; rfl
  | [x], R => by show (decide (keyOf x < keyOf a) && risesF ([] ++ a :: b :: R)) = false; rw [rises_bad h, Bool.and_false]
  | x :: y :: L, R => by show (decide (keyOf x < keyOf y) && risesF ((y :: L) ++ a :: b :: R)) = false; rw [rises_bad h, Bool.and_false]
end
end

section

open PySem PyProof.Rows
set_option linter.unusedVariables false
set_option linter.unusedSimpArgs false
/-! the builder -/
noncomputable def blkV (kind : Str) (r : List V) : V := .tup [.str kind, .tup r]
noncomputable def addR (kind : Str) (d : Int) : Int → List (List V) → Dct
  | _, [] => []
  | n, r :: rs => (n, blkV kind r) :: addR kind d (n + d) rs
noncomputable def abvR (d : Int) : Int → List (List V) → List V
  | _, [] => []
  | n, r :: rs => .tup [.int (keyOf (r.getD 0 .none)), .int n] :: abvR d (n + d) rs
theorem abv_nums {kind : Str} {d : Int} : ∀ {rs : List (List V)} {n : Int}, (abvR d n rs).map numOf = keysD (addR kind d n rs)
  | [], _ => rfl
  | r :: rs, n => by simp only [abvR, addR, keysD, List.map_cons, numOf] at *; rw [abv_nums (kind := kind)]; rfl
theorem add_len {kind : Str} {d : Int} : ∀ {rs : List (List V)} {n : Int}, (addR kind d n rs).length = rs.length
  | [], _ => rfl
  | r :: rs, n => by simp only [addR, List.length_cons]; rw [add_len]
theorem abv_len {d : Int} : ∀ {rs : List (List V)} {n : Int}, (abvR d n rs).length = rs.length
  | [], _ => rfl
  | r :: rs, n => by simp only [abvR, List.length_cons]; rw [abv_len]
theorem add_ge {kind : Str} {d : Int} (hd : 1 ≤ d) : ∀ {rs : List (List V)} {n : Int}, ∀ p ∈ addR kind d n rs, n ≤ p.1 ∧ p.1 < n + d * rs.length ∧ ∃ r ∈ rs, p.2 = blkV kind r
  | [], _, _, h => nomatch h
  | r :: rs, n, p, h => by
    simp only [addR] at h
    rcases List.mem_cons.mp h with rfl | h
    · refine ⟨Int.le_refl _, ?_, r, .head _, rfl⟩
      show n < n + d * ((rs.length + 1 : Nat) : Int)
      rw [Int.natCast_add, Int.mul_add]
      have := Int.mul_nonneg (show 0 ≤ d by solve_by_elim (maxDepth := 3) [Int.le_of_lt, Int.le_trans, Int.lt_of_lt_of_le, Int.lt_of_le_of_lt, i1, i2, i5, i6]) (Int.natCast_nonneg rs.length)
      lia
    · obtain ⟨h1, h2, q, hq0⟩ := add_ge hd p h
      refine ⟨by lia, ?_, q, .tail _ hq0.1, hq0.2⟩
      show p.1 < n + d * ((rs.length + 1 : Nat) : Int)
      dsimp only [Int.natCast_add, Int.mul_add]; lia
theorem add_nodup {kind : Str} {d : Int} (hd : 1 ≤ d) : ∀ {rs : List (List V)} {n : Int}, (keysD (addR kind d n rs)).Nodup
  | [], _ => List.nodup_nil
  | r :: rs, n => by
    simp only [addR, keysD, List.map_cons, List.nodup_cons]
    refine ⟨fun h => ?_, add_nodup hd⟩
    obtain ⟨p, hp, e⟩ := List.mem_map.mp h
    have := (add_ge hd p hp).1
    (first | lia | omega)
theorem add_asc {kind : Str} {d : Int} (hd : 1 ≤ d) : ∀ {rs : List (List V)} {n : Int}, (keysD (addR kind d n rs)).Pairwise (· < ·)
  | [], _ => .nil
  | r :: rs, n => by
    simp only [addR, keysD, List.map_cons]
    refine .cons (fun k hk => ?_) (add_asc hd)
    obtain ⟨p, hp, rfl⟩ := List.mem_map.mp hk
    have := (add_ge hd p hp).1; (first | lia | omega)
theorem add_rows {kind : Str} {d : Int} : ∀ {rs : List (List V)} {n : Int}, (addR kind d n rs).flatMap (fun q => rowV q.2) = rs.flatten
  | [], _ => rfl
  | r :: rs, n => by simp only [addR, List.flatMap_cons, List.flatten_cons]; rw [add_rows]; rfl
theorem rows_keys {es : Dct} : ∀ {L : Dct}, (∀ q ∈ L, lookD q.1 es = some q.2) → rowsOf es (keysD L) = L.flatMap (fun q => rowV q.2)
  | [], _ => rfl
  | q :: L, h => by
    simp only [keysD, List.map_cons, rows_cons, List.flatMap_cons]
    rw [blk_some (h q (.head _)), ← rows_keys fun x hx => h x (.tail _ hx)]; rfl
theorem abv_mem {kind : Str} {d : Int} : ∀ {rs : List (List V)} {n : Int}, ∀ p ∈ abvR d n rs, ∃ r ∈ rs, (numOf p, blkV kind r) ∈ addR kind d n rs ∧ p = .tup [.int (keyOf (r.getD 0 .none)), .int (numOf p)]
  | [], _, _, h => nomatch h
  | r :: rs, n, p, h => by
    simp only [abvR] at h
    rcases List.mem_cons.mp h with rfl | h
    · exact ⟨r, .head _, .head _, rfl⟩
    · obtain ⟨q, h1, h2, h3⟩ := abv_mem (kind := kind) p h
      exact ⟨q, .tail _ h1, .tail _ h2, h3⟩
theorem br_blkV {r : List V} : isBr (blkV sBranch r) = true ∧ isLf (blkV sLeaf r) = true := ⟨by show decide (sBranch = sBranch) = true; exact decide_eq_true rfl, by show decide (sLeaf = sLeaf) = true; exact decide_eq_true rfl⟩
theorem rises_app : ∀ {a b : List V}, risesF (a ++ b) = true → risesF a = true ∧ risesF b = true
  | [], b, h => ⟨rfl, h⟩
  | [x], [], h => ⟨rfl, rfl⟩
  | [x], y :: b, h => ⟨rfl, (Bool.and_eq_true_iff.mp h).2⟩
  | x :: y :: a, b, h => by
    have h : (decide (keyOf x < keyOf y) && risesF ((y :: a) ++ b)) = true := h
    have hq1 := Bool.and_eq_true_iff.mp h
    have hq0 := rises_app hq1.2
    exact ⟨by show (_ && _) = true; refine (Eq.symm hq1.1) ▸ ?_; refine (Eq.symm hq0.1) ▸ ?_; rfl, hq0.2⟩
theorem rises_head : ∀ {a : List V} {x : V}, risesF (x :: a) = true → ∀ y ∈ a, keyOf x < keyOf y
  | [], _, _, _, h => nomatch h
  | z :: a, x, h, y, hy => by
    have h : (decide (keyOf x < keyOf z) && risesF (z :: a)) = true := h
    obtain ⟨h1, h2⟩ := Bool.and_eq_true_iff.mp h
    have h1 := of_decide_eq_true h1
    rcases List.mem_cons.mp hy with rfl | hy
    · exact h1
    · have := rises_head h2 y hy; (first | lia | omega)
/-- the first keys of the rows rise -/
theorem abv_rises {d : Int} : ∀ {rs : List (List V)} {n : Int}, (∀ r ∈ rs, r ≠ []) → risesF rs.flatten = true → risesF (abvR d n rs) = true
  | [], _, _, _ => rfl
  | [r], _, _, _ => rfl
  | r :: r' :: rs, n, hne, h => by
    have h : risesF (r ++ (r' :: rs).flatten) = true := h
    obtain ⟨_, h2⟩ := rises_app h
    have ih := abv_rises (d := d) (n := n + d) (fun x hx => hne x (.tail _ hx)) h2
    show (decide (keyOf (r.getD 0 .none) < keyOf (r'.getD 0 .none)) && risesF (abvR d (n + d) (r' :: rs))) = true
    simp only [ih, Bool.and_true, decide_eq_true_eq]
    cases r with
    | nil => exact absurd rfl (hne [] (.head _))
    | cons x r =>
      cases r' with
      | nil => exact absurd rfl (hne [] (.tail _ (.head _)))
      | cons y r' => exact rises_head h y (List.mem_append_right _ (.head _))
structure Bld (es : Dct) (pairs ps : List V) (kind : Str) (num w : Int) : Prop where
  nd : (keysD es).Nodup
  lt : ∀ k ∈ keysD es, 1 ≤ k ∧ k < num
  fit : ∀ p ∈ es, blockF p.2 (halfI w) w = true
  ok : (kind = sLeaf ∧ es = [] ∧ pairs = ps) ∨ (kind = sBranch ∧ 2 ≤ pairs.length ∧ Chain es (pairs.map numOf) ps es.length ∧ (∀ k ∈ keysD es, Reach es k (pairs.map numOf)) ∧ ((prsOf es ++ pairs).map numOf).Nodup ∧ ∀ p ∈ prsOf es ++ pairs, ∃ b, lookD (numOf p) es = some b ∧ fstK b = keyOf p)
  good : ∀ p ∈ pairs, pairF kind p = true ∧ Dat 1 p
  ris : risesF pairs = true
  dat : ∀ p ∈ es, Dat 3 p.2
  len : es.length + 2 * pairs.length ≤ 2 * ps.length
  num : 1 ≤ num
  asc : (keysD es).Pairwise (· < ·)
theorem fit_blk {kind : Str} {r : List V} {w l : Int} (hk : kind = sLeaf ∨ kind = sBranch) (h1 : l ≤ r.length) (h2 : (r.length : Int) ≤ w) (h3 : ∀ p ∈ r, pairF kind p = true) (h4 : risesF r = true) : blockF (blkV kind r) l w = true := by
  show ((decide (kind = sLeaf) || decide (kind = sBranch)) && (decide (l ≤ r.length) && (decide ((r.length : Int) ≤ w) && (r.all (pairF kind) && risesF r)))) = true
  simp only [decide_eq_true h1, decide_eq_true h2, h4, List.all_eq_true.mpr h3]
  rcases hk with rfl | rfl <;> rfl
theorem dat_blk {kind : Str} {r : List V} (h : ∀ p ∈ r, Dat 1 p) : Dat 3 (blkV kind r) := by
  refine .tup fun x hx => ?_
  simp only [List.mem_cons, List.not_mem_nil, or_false] at hx
  rcases hx with rfl | rfl
  · exact .str _
  · exact .tup h
theorem look_app_l {es L : Dct} {k : Int} {b : V} (h : lookD k es = some b) : lookD k (es ++ L) = some b := by
  have := lookD_some_mem h
  induction es with
  | nil => exact nn h
  | cons p es ih =>
    skip
    dsimp only [lookD, List.cons_append] at h ⊢
    split
    · rename_i q; rw [if_pos q] at h; exact h
    · rename_i q; rw [if_neg q] at h; exact ih h (lookD_some_mem h)
theorem prs_app {a b : Dct} : prsOf (a ++ b) = prsOf a ++ prsOf b := by simp [prsOf]
theorem prs_add {kind : Str} {d : Int} : ∀ {rs : List (List V)} {n : Int}, prsOf (addR kind d n rs) = if kind = sBranch then rs.flatten else []
  | [], _ => by simp [addR, prsOf]
  | r :: rs, n => by
    have ih := prs_add (kind := kind) (d := d) (rs := rs) (n := n + d)
    simp only [prsOf, addR, List.flatMap_cons] at ih ⊢
    simp only [ih]
    by_cases q : kind = sBranch
    · subst q; skip; rfl
    · have : isBr (blkV kind r) = false := decide_eq_false q
      simp [q, this]
theorem Bld.step {es : Dct} {pairs ps : List V} {kind : Str} {num w d : Int} (B : Bld es pairs ps kind num w) (hw : 3 ≤ w) {rs : List (List V)} (hd : 1 ≤ d) (hf : rs.flatten = pairs) (hr : ∀ r ∈ rs, halfI w ≤ r.length ∧ (r.length : Int) ≤ w) (h2 : 2 ≤ rs.length) :
    Bld (es ++ addR kind d num rs) (abvR d num rs) ps sBranch (num + d * rs.length) w := by
  have hh : (2 : Int) ≤ halfI w := by unfold halfI; lia
  have hne : ∀ r ∈ rs, r ≠ [] := fun r h e => by have := (hr r h).1; rw [e] at this; simp at this; lia
  have hk : kind = sLeaf ∨ kind = sBranch := B.ok.imp (·.1) (·.1)
  have hrm : ∀ r ∈ rs, ∀ p ∈ r, p ∈ pairs := fun r h p hp => by rw [← hf]; exact List.mem_flatten.mpr ⟨r, h, hp⟩
  have hrr : ∀ r ∈ rs, risesF r = true := fun r h => by
    obtain ⟨a, b, e⟩ := List.append_of_mem h
    have := B.ris
    rw [← hf, e] at this
    simp only [List.flatten_append, List.flatten_cons] at this
    exact (rises_app (rises_app this).2).1
  have hnd : (keysD (es ++ addR kind d num rs)).Nodup := by
    have e : keysD (es ++ addR kind d num rs) = keysD es ++ keysD (addR kind d num rs) := by simp [keysD]
    rw [e]
    refine List.nodup_append.mpr ⟨B.nd, add_nodup hd, fun a ha b hb e => ?_⟩
    obtain ⟨p, hp, rfl⟩ := List.mem_map.mp hb
    have := (B.lt a ha).2
    have := (add_ge hd p hp).1
    lia
  have hlook : ∀ q ∈ addR kind d num rs, lookD q.1 (es ++ addR kind d num rs) = some q.2 := fun q hq => mem_lookD hnd (List.mem_append_right _ hq)
  have hold : ∀ n, (isBr (blk es n) = true ∨ isLf (blk es n) = true) → blk (es ++ addR kind d num rs) n = blk es n := fun n hn => blk_some (look_app_l (hn.elim look_br look_lf))
  have hrow : rowsOf (es ++ addR kind d num rs) ((abvR d num rs).map numOf) = pairs := by rw [abv_nums (kind := kind), rows_keys hlook, add_rows, hf]
  have hnum : ∀ n ∈ (abvR d num rs).map numOf, ∃ r ∈ rs, blk (es ++ addR kind d num rs) n = blkV kind r := fun n hn => by
    obtain ⟨p, hp, rfl⟩ := List.mem_map.mp hn
    obtain ⟨r, h1, h3, _⟩ := abv_mem (kind := kind) p hp
    exact ⟨r, h1, blk_some (hlook _ h3)⟩
  have hnn : (abvR d num rs).map numOf ≠ [] := fun e => by have := congrArg List.length e; simp [abv_len] at this; subst this; simp at h2
  have habv : ∀ p ∈ abvR d num rs, ∃ b, lookD (numOf p) (es ++ addR kind d num rs) = some b ∧ fstK b = keyOf p := fun p hp => by
    obtain ⟨r, h1, h3, h4⟩ := abv_mem (kind := kind) p hp
    exact ⟨_, hlook _ h3, by rw [h4]; rfl⟩
  have hsum : 2 * rs.length ≤ pairs.length := by
    have go : ∀ {rs : List (List V)}, (∀ r ∈ rs, 2 ≤ r.length) → 2 * rs.length ≤ rs.flatten.length := by
      intro rs
      induction rs with
      | nil => intro _; simp
      | cons r rs ih => intro h; have := h r (.head _); have := ih fun x hx => h x (.tail _ hx); simp only [List.length_cons, List.flatten_cons, List.length_append]; lia
    rw [← hf]; exact go fun r h => by have := (hr r h).1; lia
  refine ⟨hnd, fun k hkk => ?_, fun p hp => ?_, .inr ⟨rfl, by rw [abv_len]; exact h2, ?_, ?_, ?_, ?_⟩, fun p hp => ?_, abv_rises hne (by rw [hf]; exact B.ris), fun p hp => ?_, ?_, ?_, ?_⟩
  · have e : keysD (es ++ addR kind d num rs) = keysD es ++ keysD (addR kind d num rs) := by simp [keysD]
    rw [e] at hkk
    have hp0 := Int.mul_nonneg (show 0 ≤ d by solve_by_elim (maxDepth := 3) [Int.le_of_lt, Int.le_trans, Int.lt_of_lt_of_le, Int.lt_of_le_of_lt, i1, i2, i5, i6]) (Int.natCast_nonneg rs.length)
    have := B.num
    rcases List.mem_append.mp hkk with h | h
    · have := B.lt k h; lia
    · obtain ⟨p, hp, rfl⟩ := List.mem_map.mp h
      have := add_ge hd p hp; lia
  · rcases List.mem_append.mp hp with h | h
    · exact B.fit p h
    · obtain ⟨_, _, r, h1, e⟩ := add_ge hd p h
      rw [e]; exact fit_blk hk (hr r h1).1 (hr r h1).2 (fun p hp => (B.good p (hrm r h1 p hp)).1) (hrr r h1)
  · rcases B.ok with ⟨rfl, rfl, rfl⟩ | ⟨rfl, _, hc, _⟩
    · have := Chain.leaf (es := [] ++ addR sLeaf d num rs) hnn fun n hn => by obtain ⟨r, _, e⟩ := hnum n hn; rw [e]; exact br_blkV.2
      rw [hrow] at this
      simpa [abv_len, add_len] using this
    · have := Chain.branch (es := es ++ addR sBranch d num rs) hnn (fun n hn => by obtain ⟨r, _, e⟩ := hnum n hn; rw [e]; exact br_blkV.1) (ps := ps) (m := es.length) (by unfold belowF; exact hrow ▸ (hc.congr hold))
      rw [List.length_map, abv_len, Nat.add_comm] at this
      simp only [List.length_append, add_len]; exact this
  · intro k hkk
    have e : keysD (es ++ addR kind d num rs) = keysD es ++ keysD (addR kind d num rs) := by simp [keysD]
    replace hkk := e ▸ hkk
    rcases List.mem_append.mp hkk with h | h
    · rcases B.ok with ⟨rfl, rfl, rfl⟩ | ⟨rfl, _, hc, hre, _⟩
      · cases h
      · refine .next (fun n hn => by refine Exists.elim (hnum n hn) ?_; rintro r hq3; rw [hq3.2]; exact br_blkV.1) ?_
        unfold belowF
        refine hrow ▸ ?_
        have go : ∀ {row}, Reach es k row → Reach (es ++ addR sBranch d num rs) k row := by
          intro row hr
          induction hr with
          | here h => exact .here h
          | next ha hr ih =>
            refine .next (fun m hm => by rw [hold m (.inl (ha m hm))]; exact ha m hm) ?_
            unfold belowF at ih ⊢
            exact (rows_congr (es := es) fun m hm => hold m (.inl (ha m hm))) ▸ ih
        exact go (hre k h)
    · rw [← abv_nums] at h; exact .here h
  · refine prs_app ▸ ?_; refine prs_add ▸ ?_; refine List.map_append ▸ ?_; refine (abv_nums (kind := kind)) ▸ ?_
    rcases B.ok with ⟨rfl, rfl, rfl⟩ | ⟨rfl, _, hc, hre, hn1, hn2⟩
    · have : ¬ sLeaf = sBranch := fun e => by have := leaf_ne; rw [e] at this; simp at this
      skip
      exact add_nodup hd
    · simp only [if_true, hf]
      refine List.nodup_append.mpr ⟨hn1, add_nodup hd, fun a ha b hb e => ?_⟩
      obtain ⟨p, hp, rfl⟩ := List.mem_map.mp ha
      refine Exists.elim (hn2 p hp) ?_; rintro bb hq2
      have h1 := (B.lt _ (List.mem_map.mpr ⟨_, lookD_some_mem hq2.1, rfl⟩)).2
      obtain ⟨q, hq, rfl⟩ := List.mem_map.mp hb
      have := (add_ge hd q hq).1
      simp only at h1; lia
  · intro p hp
    rcases List.mem_append.mp hp with h | h
    · replace h := prs_app ▸ h; replace h := prs_add ▸ h
      rcases B.ok with ⟨rfl, rfl, rfl⟩ | ⟨rfl, _, hc, hre, hn1, hn2⟩
      · have : ¬ sLeaf = sBranch := fun e => by have := leaf_ne; rw [e] at this; simp at this
        simp [this, prsOf] at h
      · simp only [if_true, hf] at h
        refine Exists.elim (hn2 p h) ?_; rintro b hq1
        exact ⟨b, look_app_l hq1.1, hq1.2⟩
    · exact habv p h
  · refine Exists.elim (abv_mem (kind := kind) p hp) ?_; rintro r hq0
    have hge := add_ge hd _ hq0.2.1
    have hnum1 := B.num
    cases r with
    | nil => exact absurd rfl (hne [] hq0.1)
    | cons x r =>
      have hx := (B.good x (hrm _ hq0.1 x (.head _))).1
      refine Exists.elim (pair_key hx) fun k hx => ?_; obtain ⟨b, rfl⟩ := hx
      have hkey : keyF (.int k) = true := (Bool.and_eq_true_iff.mp hx).1
      refine hq0.2.2 ▸ ?_
      refine ⟨?_, .tup fun y hy => ?_⟩
      · show (keyF (.int k) && (if sBranch = sLeaf then valueF _ else numF (.int (numOf p)))) = true
        refine (Eq.symm hkey) ▸ ?_
        skip
        exact decide_eq_true (by have := hge.1; simp only at this; lia)
      · simp only [List.mem_cons, List.not_mem_nil, or_false] at hy
        rcases hy with rfl | rfl
        · exact .int _
        · exact .int _
  · rcases List.mem_append.mp hp with h | h
    · exact B.dat p h
    · obtain ⟨_, _, r, h1, e⟩ := add_ge hd p h
      simp only [e]; exact dat_blk fun q hq => (B.good q (hrm r h1 q hq)).2
  · have := B.len
    simp only [List.length_append, add_len, abv_len]; lia
  · have := Int.mul_nonneg (show 0 ≤ d by solve_by_elim (maxDepth := 3) [Int.le_of_lt, Int.le_trans, Int.lt_of_lt_of_le, Int.lt_of_le_of_lt, i1, i2, i5, i6]) (Int.natCast_nonneg rs.length)
    have := B.num; lia
  · have e : keysD (es ++ addR kind d num rs) = keysD es ++ keysD (addR kind d num rs) := by simp [keysD]
    simp only [e]
    refine List.pairwise_append.mpr ⟨B.asc, add_asc hd, fun a ha b hb => ?_⟩
    have := (B.lt a ha).2
    obtain ⟨p, hp, rfl⟩ := List.mem_map.mp hb
    have := (add_ge hd p hp).1; lia
end

section

open PySem PyProof.Rows
set_option linter.unusedVariables false
set_option linter.unusedSimpArgs false
theorem leaf_nb : ¬ sLeaf = sBranch := fun e => by have := leaf_ne; simp only [e] at this; simp at this
theorem Bld.zero {es : Dct} {pairs ps : List V} {kind : Str} {num w : Int} (B : Bld es pairs ps kind num w) : lookD 0 es = none := lookD_none.mpr fun h => by have := B.lt 0 h; (first | lia | omega)
theorem Bld.finish {es : Dct} {pairs ps : List V} {kind : Str} {num w : Int} (B : Bld es pairs ps kind num w) (hw : 3 ≤ w) (hl : (pairs.length : Int) ≤ w) (hpl : ps.length ≤ 2000) : Tree (putD 0 (blkV kind pairs) es) ps w := by
  refine (put_new B.zero) ▸ ?_
  have hk : kind = sLeaf ∨ kind = sBranch := B.ok.imp (·.1) (·.1)
  have ek : keysD (es ++ [(0, blkV kind pairs)]) = keysD es ++ [0] := by simp [keysD]
  have hnd : (keysD (es ++ [(0, blkV kind pairs)])).Nodup := by
    simp only [ek]
    refine List.nodup_append.mpr ⟨B.nd, by decide, fun a ha b hb e => ?_⟩
    replace hb := List.mem_singleton.mp hb; have := B.lt a ha; lia
  have h0 : lookD 0 (es ++ [(0, blkV kind pairs)]) = some (blkV kind pairs) := mem_lookD hnd (List.mem_append_right _ (.head _))
  have hold : ∀ n, (isBr (blk es n) = true ∨ isLf (blk es n) = true) → blk (es ++ [(0, blkV kind pairs)]) n = blk es n := fun n hn => blk_some (look_app_l (hn.elim look_br look_lf))
  have hrow : rowsOf (es ++ [(0, blkV kind pairs)]) [0] = pairs := by rw [rows_cons, blk_some h0]; exact List.append_nil _
  have hprs : prsOf (es ++ [(0, blkV kind pairs)]) = prsOf es ++ (if kind = sBranch then pairs else []) := by
    simp only [prs_app]
    congr 1
    by_cases q : kind = sBranch
    · subst q; simp only [prsOf, List.flatMap_cons, List.flatMap_nil, if_pos br_blkV.1, if_pos rfl, List.append_nil]; rfl
    · have : isBr (blkV kind pairs) = false := decide_eq_false q
      simp [prsOf, this, q]
  refine ⟨hnd, fun p hp => ?_, ?_, ?_, fun k hk => ?_, fun p hp => ?_, fun k hk => ?_, by have := B.len; skip; simp; lia⟩
  · rcases List.mem_append.mp hp with h | h
    · have := B.lt p.1 (List.mem_map.mpr ⟨p, h, rfl⟩)
      unfold fitF; rw [if_neg (by lia)]; exact B.fit p h
    · simp at h; subst h
      dsimp only [fitF]
      rw [if_pos rfl, fit_blk hk (by solve_by_elim (maxDepth := 2) [i1, i2, i3, i4, i5, i6, i7, i8]) hl (fun p hp => (B.good p hp).1) B.ris, Bool.true_and, Bool.or_eq_true]
      rcases B.ok with ⟨rfl, _⟩ | ⟨_, h2, _⟩
      · exact .inl br_blkV.2
      · exact .inr (decide_eq_true h2)
  · unfold NamedOk
    refine hprs ▸ ?_
    rcases B.ok with ⟨rfl, rfl, rfl⟩ | ⟨rfl, _, hc, hre, hn1, hn2⟩
    · exact (if_neg leaf_nb) ▸ (⟨by simp [prsOf], fun p hp => by simp [prsOf] at hp⟩)
    · skip
      refine ⟨hn1, fun p hp => ?_⟩
      refine Exists.elim (hn2 p hp) ?_; rintro b hq0
      exact ⟨b, look_app_l hq0.1, hq0.2⟩
  · rcases B.ok with ⟨rfl, rfl, rfl⟩ | ⟨rfl, _, hc, hre, hn1, hn2⟩
    · have := Chain.leaf (es := [] ++ [(0, blkV sLeaf pairs)]) (row := [0]) (by simp) fun n hn => by simp at hn; subst hn; exact br_blkV.2
      simp only [hrow] at this; exact this
    · have := Chain.branch (es := es ++ [(0, blkV sBranch pairs)]) (row := [0]) (ps := ps) (m := es.length) (by simp) (fun n hn => by simp at hn; subst hn; rw [blk_some h0]; exact br_blkV.1) (by unfold belowF; exact (Eq.symm hrow) ▸ (hc.congr hold))
      rw [List.length_append, Nat.add_comm]; exact this
  · replace hk := ek ▸ hk
    rcases List.mem_append.mp hk with h | h
    · rcases B.ok with ⟨rfl, rfl, rfl⟩ | ⟨rfl, _, hc, hre, hn1, hn2⟩
      · cases h
      · refine .next (fun n hn => by simp at hn; subst hn; rw [blk_some h0]; exact br_blkV.1) ?_
        unfold belowF
        refine (Eq.symm hrow) ▸ ?_
        have go : ∀ {row}, Reach es k row → Reach (es ++ [(0, blkV sBranch pairs)]) k row := by
          intro row hr
          induction hr with
          | here h => exact .here h
          | next ha hr ih =>
            refine .next (fun m hm => by rw [hold m (.inl (ha m hm))]; exact ha m hm) ?_
            unfold belowF at ih ⊢
            simp only [rows_congr (es := es) fun m hm => hold m (.inl (ha m hm))]; exact ih
        exact go (hre k h)
    · exact .here h
  · rcases List.mem_append.mp hp with h | h
    · exact (B.dat p h).mono (by decide)
    · simp at h; subst h; exact (dat_blk fun p hp => (B.good p hp).2).mono (by decide)
  · rw [ek] at hk
    rcases List.mem_append.mp hk with h | h
    · have := B.lt k h; lia
    · replace h := List.mem_singleton.mp h; lia
inductive BlkI (b : V) (l m : Int) : Prop
  | mk (kind : Str) (r : List V) : b = blkV kind r → (kind = sLeaf ∨ kind = sBranch) → l ≤ r.length → (r.length : Int) ≤ m → (∀ p ∈ r, pairF kind p = true) → risesF r = true → BlkI b l m
inductive FitI (k : Int) (b : V) (w : Int) : Prop
  | mk (kind : Str) (r : List V) : b = blkV kind r → (kind = sLeaf ∨ kind = sBranch) → (r.length : Int) ≤ w → (∀ p ∈ r, pairF kind p = true) → risesF r = true → (k ≠ 0 → halfI w ≤ r.length) → (k ≠ 0 ∨ kind = sBranch → 2 ≤ r.length) → FitI k b w
theorem block_inv {b : V} {l m : Int} (h : blockF b l m = true) : BlkI b l m := by
  unfold blockF at h
  split at h
  · simp only [Bool.and_eq_true, Bool.or_eq_true, decide_eq_true_eq, List.all_eq_true] at h
    exact ⟨_, _, rfl, h.1, h.2.1, h.2.2.1, h.2.2.2.1, h.2.2.2.2⟩
  · cases h
theorem fit_inv {k w : Int} {b : V} (hw : 3 ≤ w) (h : fitF k b w = true) : FitI k b w := by
  have hh : (2 : Int) ≤ halfI w := by unfold halfI; (first | lia | omega)
  unfold fitF at h
  split at h
  · rename_i q
    obtain ⟨h1, h2⟩ := Bool.and_eq_true_iff.mp h
    obtain ⟨kind, r, rfl, a, b, c, d, e⟩ := block_inv h1
    refine ⟨kind, r, rfl, a, c, d, e, fun h => absurd q h, fun h => ?_⟩
    rcases h with h | rfl
    · exact absurd q h
    · rcases Bool.or_eq_true_iff.mp h2 with h2 | h2
      · have := br_lf (br_blkV (r := r)).1; rw [h2] at this; cases this
      · exact of_decide_eq_true h2
  · obtain ⟨kind, r, rfl, a, b, c, d, e⟩ := block_inv h
    exact ⟨kind, r, rfl, a, c, d, e, fun _ => b, fun _ => by (first | lia | omega)⟩
noncomputable def wideF (es : Dct) (w : Int) : Bool := es.all fun p => decide (p.1 = 0) || decide (halfI w ≤ (rowV p.2).length)
theorem Tree.wide {es : Dct} {ps : List V} {w w' : Int} (T : Tree es ps w) (hw : 3 ≤ w) (hr : risesF ps = true) (h' : w ≤ w') : SoundR es w' (wideF es w') := by
  cases hb : wideF es w' with
  | true =>
    refine T.sound hr fun p hp => ?_
    obtain ⟨kind, r, e, a, b, c, d, f, g⟩ := fit_inv hw (T.fit p hp)
    have := List.all_eq_true.mp hb p hp
    rw [e] at this ⊢
    unfold fitF
    split
    · rename_i q
      rw [fit_blk a (by solve_by_elim (maxDepth := 2) [i1, i2, i3, i4, i5, i6, i7, i8]) (by lia) c d, Bool.true_and, Bool.or_eq_true]
      rcases a with rfl | rfl
      · exact .inl br_blkV.2
      · exact .inr (decide_eq_true (g (.inr rfl)))
    · rename_i q
      rw [decide_eq_false q, Bool.false_or, decide_eq_true_eq] at this
      exact fit_blk a this (by lia) c d
  | false =>
    obtain ⟨p, hp, hq⟩ : ∃ p ∈ es, (decide (p.1 = 0) || decide (halfI w' ≤ (rowV p.2).length)) = false := by
      simpa [wideF] using hb
    rw [Bool.or_eq_false_iff] at hq
    refine .unfit hp ?_
    unfold fitF
    refine (if_neg (of_decide_eq_false hq.1)) ▸ ?_
    cases hf : blockF p.2 (halfI w') w' with
    | false => rfl
    | true =>
      obtain ⟨kind, r, e, a, b, _⟩ := block_inv hf
      have := of_decide_eq_false hq.2
      rw [e] at this; exact absurd b this
section
variable {es : Dct} {ps : List V} {w n : Int} {b' : V}
theorem put_self {k : Int} {v : V} : (k, v) ∈ putD k v es := lookD_some_mem ((Eq.trans lookD_put (if_pos rfl)))
theorem sp_unfit {k : Int} {v : V} (h : fitF k v w = false) : SoundR (putD k v es) w false := .unfit (p := (k, v)) put_self h
theorem Tree.mem (T : Tree es ps w) {b : V} (h : lookD n es = some b) : Reach es n [0] := T.reach n (List.mem_map.mpr ⟨_, lookD_some_mem h, rfl⟩)
theorem prs_of {m : Int} {p : V} (h : isBr (blk es m) = true) (hp : p ∈ rowV (blk es m)) : p ∈ prsOf es := mem_prs.mpr ⟨_, blk_mem (.inl h), h, hp⟩
/-- the pair that names a block other than the root -/
theorem Tree.parent (T : Tree es ps w) {b : V} (hn : n ≠ 0) (h : lookD n es = some b) : ∃ m p, m ≠ n ∧ isBr (blk es m) = true ∧ p ∈ rowV (blk es m) ∧ numOf p = n ∧ fstK b = keyOf p := by
  rcases (T.mem h).parent with hm | ⟨m, hm, hq⟩
  · replace hm := List.mem_singleton.mp hm; exact absurd hm hn
  · obtain ⟨p, hq0⟩ := List.mem_map.mp hq
    clear hq
    refine ⟨m, p, ?_, hm, hq0.1, hq0.2, ?_⟩
    · rintro rfl
      exact T.chain.noself (T.mem h) hm (List.mem_map.mpr ⟨p, hq0.1, hq0.2⟩)
    · refine Exists.elim (T.named.2 p (prs_of hm hq0.1)) fun b2 hx => ?_; obtain ⟨h1, h2⟩ := hx
      replace h1 := hq0.2 ▸ h1; replace h1 := h ▸ h1; cases h1; exact h2
/-- way 2: the first key is another -/
theorem Tree.key (T : Tree es ps w) {kind : Str} {p0 p1 : V} {r : List V} (h : lookD n es = some (blkV kind (p0 :: r))) (hk : n ≠ 0 ∨ kind = sBranch) (h1 : keyOf p1 ≠ keyOf p0) (h2 : numOf p1 = numOf p0) : SoundR (putD n (blkV kind (p1 :: r)) es) w false := by
  refine SoundR.cases (r := false) (fun hf hN _ => ?_) rfl
  exfalso
  by_cases hb : kind = sBranch
  · subst hb
    refine Exists.elim (T.named.2 p0 (prs_of (m := n) (((blk_some h) ▸ br_blkV.1)) (((blk_some h) ▸ (.head _))))) ?_; rintro b1 hq1
    have hc : numOf p0 ≠ n := fun e => T.chain.noself (T.mem h) (((blk_some h) ▸ br_blkV.1)) (((blk_some h) ▸ (List.mem_map.mpr ⟨p0, .head _, e⟩)))
    have hp1 : p1 ∈ prsOf (putD n (blkV sBranch (p1 :: r)) es) := mem_prs.mpr ⟨_, put_self, br_blkV.1, .head _⟩
    refine Exists.elim (hN.2 p1 hp1) fun b2 hx => ?_; obtain ⟨g3, g4⟩ := hx
    replace g3 := h2 ▸ g3; replace g3 := lookD_put ▸ g3; replace g3 := (if_neg hc) ▸ g3; replace g3 := hq1.1 ▸ g3
    cases g3
    exact h1 (g4.symm.trans hq1.2)
  · have hn : n ≠ 0 := hk.resolve_right hb
    refine Exists.elim (T.parent hn h) fun m hx => ?_; obtain ⟨p, hq0⟩ := hx
    have hmem : p ∈ prsOf (putD n (blkV kind (p1 :: r)) es) := by
      have : blk (putD n (blkV kind (p1 :: r)) es) m = blk es m := (Eq.trans blk_put (if_neg hq0.1))
      exact prs_of (m := m) (by rw [this]; exact hq0.2.1) (by rw [this]; exact hq0.2.2.1)
    refine Exists.elim (hN.2 p hmem) fun b2 hx => ?_; obtain ⟨g3, g4⟩ := hx
    replace g3 := hq0.2.2.2.1 ▸ g3; replace g3 := lookD_put ▸ g3; replace g3 := (if_pos rfl) ▸ g3
    cases g3
    exact h1 (g4.trans hq0.2.2.2.2.symm)
theorem prs_split {q : Int × V} (h : q ∈ es) (hb : isBr q.2 = true) : ∃ A B, prsOf es = A ++ (rowV q.2 ++ B) := by
  refine Exists.elim (List.append_of_mem h) fun a hx => ?_; obtain ⟨c, e⟩ := hx
  refine ⟨prsOf a, prsOf c, ?_⟩
  simp only [e, prs_app]
  congr 1
  simp only [prsOf, List.flatMap_cons, if_pos hb]
/-- way 3: a number stands twice -/
theorem sp_twice {r : List V} (h : ¬ (r.map numOf).Nodup) : SoundR (putD n (blkV sBranch r) es) w false := by
  refine SoundR.cases (r := false) (fun hf hN _ => ?_) rfl
  exfalso
  refine Exists.elim (prs_split (put_self (k := n) (v := blkV sBranch r) (es := es)) br_blkV.1) fun A hx => ?_; obtain ⟨B, e⟩ := hx
  have := hN.1
  simp only [e, List.map_append, List.map_append] at this
  exact h (List.nodup_append.mp (List.nodup_append.mp this).2.1).1
/-- way 9: a block is gone -/
theorem Tree.gone (T : Tree es ps w) {b : V} (h : lookD n es = some b) : SoundR (dropD n es) w false := by
  by_cases hn : n = 0
  · subst hn; exact .nozero ((Eq.trans (lookD_drop T.nd) (if_pos rfl)))
  · refine SoundR.cases (r := false) (fun hf hN _ => ?_) rfl
    exfalso
    refine Exists.elim (T.parent hn h) fun m hx => ?_; obtain ⟨p, hq0⟩ := hx
    have hmem : p ∈ prsOf (dropD n es) := by
      have : blk (dropD n es) m = blk es m := by unfold blk; rw [lookD_drop_ne hq0.1]
      exact prs_of (m := m) (by rw [this]; exact hq0.2.1) (by rw [this]; exact hq0.2.2.1)
    refine Exists.elim (hN.2 p hmem) fun b2 hx => ?_; obtain ⟨g3, g4⟩ := hx
    rw [hq0.2.2.2.1, lookD_drop T.nd, if_pos rfl] at g3
    exact nn g3
theorem Tree.two (T : Tree es ps w) (hw : 3 ≤ w) (x : Int) (hb : isBr (blk es x) = true) : ∃ y ∈ (rowV (blk es x)).map numOf, y ≠ n := by
  obtain ⟨kind, r, e, a, _, _, _, _, g⟩ := fit_inv hw (T.fit _ (blk_mem (.inl hb)))
  simp only at e
  have hk : kind = sBranch := by
    rcases a with rfl | rfl
    · rw [e] at hb; have := lf_br (br_blkV (r := r)).2; exact ff (Eq.trans (Eq.symm this) hb)
    · rfl
  have h2 := g (.inr hk)
  refine Exists.elim (prs_split (blk_mem (.inl hb)) hb) fun A hx => ?_; obtain ⟨B, e2⟩ := hx
  have hn := T.named.1
  simp only [e2, List.map_append, List.map_append] at hn
  have hn := (List.nodup_append.mp (List.nodup_append.mp hn).2.1).1
  simp only [e] at hn ⊢
  have hr : rowV (blkV kind r) = r := rfl
  rw [hr] at hn ⊢
  match r, h2, hn with
  | p :: q :: r, _, hn =>
    simp only [List.map_cons, List.nodup_cons, List.mem_cons, not_or] at hn
    by_cases hq : numOf p = n
    · exact ⟨numOf q, .tail _ (.head _), fun e => hn.1.1 (hq.trans e.symm)⟩
    · exact ⟨numOf p, .head _, hq⟩
/-- way 11: a leaf becomes a branch -/
theorem Tree.deeper (T : Tree es ps w) (hw : 3 ≤ w) {es' : Dct} (hn : n ≠ 0) (hl : isLf (blk es n) = true) (h : ∀ x, x ≠ n → (isBr (blk es x) = true ∨ isLf (blk es x) = true) → blk es' x = blk es x) (hb : isBr (blk es' n) = true) : SoundR es' w false :=
  SoundR.cases (fun _ _ _ => T.chain.mixed (T.mem (look_lf hl)) hl ⟨0, .head _, fun e => hn e.symm⟩ (fun x hx => T.two hw x hx) h hb T.len 1) rfl
/-- ways 12, 13: the last key of a leaf is not less than the next one -/
theorem Tree.leaf (T : Tree es ps w) {init : List V} {lp np : V} (hl : lookD n es = some (blkV sLeaf (init ++ [lp]))) (hnext : ∀ A B, ps = A ++ lp :: B → ∃ y B', B = y :: B' ∧ keyOf y ≤ keyOf np) : SoundR (putD n (blkV sLeaf (init ++ [np])) es) w false := by
  have hlf : isLf (blk es n) = true := by rw [blk_some hl]; exact br_blkV.2
  have e' : blk (putD n (blkV sLeaf (init ++ [np])) es) n = blkV sLeaf (init ++ [np]) := (Eq.trans blk_put (if_pos rfl))
  refine SoundR.cases (fun _ _ _ => T.chain.unrising (es' := putD n (blkV sLeaf (init ++ [np])) es) (T.mem hl) hlf (fun x hx _ => (Eq.trans blk_put (if_neg hx))) (by rw [e']; exact br_blkV.2) ?_ T.len 1) rfl
  intro A B hps A'
  replace hps := (blk_some hl) ▸ hps
  refine (Eq.symm e') ▸ ?_
  have hps : ps = (A ++ init) ++ lp :: B := by rw [hps]; show A ++ ((init ++ [lp]) ++ B) = _; simp
  refine Exists.elim (hnext _ _ hps) fun y hx => ?_; obtain ⟨B', rfl, hy⟩ := hx
  skip
  have : A' ++ ((init ++ [np]) ++ y :: B') = (A' ++ init) ++ np :: y :: B' := by simp
  exact this ▸ (rises_bad hy)
end
end

section

open PySem PySem.W PySem.Calls PyProof.Rows
set_option maxRecDepth 100000
noncomputable def gcs_uf020012_07 : List Str := ["LONGEST"]
/-- 0: is_whole(thing) -/
noncomputable def m_is_whole : MSs := (ss [
    .ret (.and (es [(.op (.isinst "int") (es [(.var 0)])), (.not (.op (.isinst "bool") (es [(.var 0)])))]))])
noncomputable def v_is_whole : List Str := ["thing"]
/-- 1: is_key(thing) -/
noncomputable def m_is_key : MSs := (ss [
    .ret (.and (es [(.call 0 (es [(.var 0)])), (.op .lt (es [(.op .neg (es [(.op .pow (es [(.lit (.int 10)), (.lit (.int 60))]))])), (.var 0)])), (.op .lt (es [(.var 0), (.op .pow (es [(.lit (.int 10)), (.lit (.int 60))]))]))]))])
noncomputable def v_is_key : List Str := ["thing"]
/-- 2: is_value(thing) -/
noncomputable def m_is_value : MSs := (ss [
    .ite (.or (es [(.not (.op (.isinst "str") (es [(.var 0)]))), (.op .gt (es [(.op .len (es [(.var 0)])), (.gcon 0)]))])) (ss [
      .ret (.lit (.bool false))]) (ss []),
    .ret (.op .all (es [(.comp false (.and (es [(.op .le (es [(.lit (.str (Str.ofString " "))), (.var 1)])), (.op .le (es [(.var 1), (.lit (.str (Str.ofString "~")))]))])) (.one 1) (.seq (.var 0)) (es []))]))])
noncomputable def v_is_value : List Str := ["thing", "sign"]
/-- 3: half(width) -/
noncomputable def m_half : MSs := (ss [
    .ret (.op .div (es [(.op .add (es [(.var 0), (.lit (.int 1))])), (.lit (.int 2))]))])
noncomputable def v_half : List Str := ["width"]
/-- 4: rises(pairs) -/
noncomputable def m_rises : MSs := (ss [
    .for1 (.one 1) (.range (es [(.lit (.int 1)), (.op .len (es [(.var 0)]))])) (ss [
      .ite (.op .ge (es [(.op .item (es [(.op .item (es [(.var 0), (.op .sub (es [(.var 1), (.lit (.int 1))]))])), (.lit (.int 0))])), (.op .item (es [(.op .item (es [(.var 0), (.var 1)])), (.lit (.int 0))]))])) (ss [
        .ret (.lit (.bool false))]) (ss [])]),
    .ret (.lit (.bool true))])
noncomputable def v_rises : List Str := ["pairs", "at"]
/-- 5: is_pair(word, thing) -/
noncomputable def m_is_pair : MSs := (ss [
    .ite (.or (es [(.not (.op (.isinst "tuple") (es [(.var 1)]))), (.op .ne (es [(.op .len (es [(.var 1)])), (.lit (.int 2))])), (.not (.call 1 (es [(.op .item (es [(.var 1), (.lit (.int 0))]))])))])) (ss [
      .ret (.lit (.bool false))]) (ss []),
    .ite (.op .eq (es [(.var 0), (.lit (.str (Str.ofString "leaf")))])) (ss [
      .ret (.call 2 (es [(.op .item (es [(.var 1), (.lit (.int 1))]))]))]) (ss []),
    .ret (.and (es [(.call 0 (es [(.op .item (es [(.var 1), (.lit (.int 1))]))])), (.op .ge (es [(.op .item (es [(.var 1), (.lit (.int 1))])), (.lit (.int 1))]))]))])
noncomputable def v_is_pair : List Str := ["word", "thing"]
/-- 6: is_block(thing, least, most) -/
noncomputable def m_is_block : MSs := (ss [
    .ite (.or (es [(.not (.op (.isinst "tuple") (es [(.var 0)]))), (.op .ne (es [(.op .len (es [(.var 0)])), (.lit (.int 2))]))])) (ss [
      .ret (.lit (.bool false))]) (ss []),
    .assign 3 (.op .item (es [(.var 0), (.lit (.int 0))])),
    .assign 4 (.op .item (es [(.var 0), (.lit (.int 1))])),
    .ite (.or (es [(.not (.op (.isinst "str") (es [(.var 3)]))), (.op .notIn (es [(.var 3), (.op .mkTup (es [(.lit (.str (Str.ofString "leaf"))), (.lit (.str (Str.ofString "branch")))]))])), (.not (.op (.isinst "tuple") (es [(.var 4)])))])) (ss [
      .ret (.lit (.bool false))]) (ss []),
    .ite (.or (es [(.op .lt (es [(.op .len (es [(.var 4)])), (.var 1)])), (.op .gt (es [(.op .len (es [(.var 4)])), (.var 2)]))])) (ss [
      .ret (.lit (.bool false))]) (ss []),
    .ret (.and (es [(.op .all (es [(.comp false (.call 5 (es [(.var 3), (.var 5)])) (.one 5) (.seq (.var 4)) (es []))])), (.call 4 (es [(.var 4)]))]))])
noncomputable def v_is_block : List Str := ["thing", "least", "most", "word", "row", "pair"]
/-- 7: is_fit(number, block, width) -/
noncomputable def m_is_fit : MSs := (ss [
    .ite (.op .ne (es [(.var 0), (.lit (.int 0))])) (ss [
      .ret (.call 6 (es [(.var 1), (.call 3 (es [(.var 2)])), (.var 2)]))]) (ss []),
    .ite (.not (.call 6 (es [(.var 1), (.lit (.int 0)), (.var 2)]))) (ss [
      .ret (.lit (.bool false))]) (ss []),
    .ret (.or (es [(.op .eq (es [(.op .item (es [(.var 1), (.lit (.int 0))])), (.lit (.str (Str.ofString "leaf")))])), (.op .ge (es [(.op .len (es [(.op .item (es [(.var 1), (.lit (.int 1))]))])), (.lit (.int 2))]))]))])
noncomputable def v_is_fit : List Str := ["number", "block", "width"]
/-- 8: below(blocks, row) -/
noncomputable def m_below : MSs := (ss [
    .assign 2 (.op .mkListM (es [])),
    .for1 (.one 3) (.seq (.var 1)) (ss [
      .expr (.meth .extend (.var 2) (es [(.comp false (.op .item (es [(.var 4), (.lit (.int 1))])) (.one 4) (.seq (.op .item (es [(.op .item (es [(.var 0), (.var 3)])), (.lit (.int 1))]))) (es []))]))]),
    .freeze 2,
    .ret (.var 2)])
noncomputable def v_below : List Str := ["blocks", "row", "found", "number", "pair"]
/-- 9: pairs_of(blocks, row) -/
noncomputable def m_pairs_of : MSs := (ss [
    .assign 2 (.op .mkListM (es [])),
    .for1 (.one 3) (.seq (.var 1)) (ss [
      .expr (.meth .extend (.var 2) (es [(.op .list (es [(.op .item (es [(.op .item (es [(.var 0), (.var 3)])), (.lit (.int 1))]))]))]))]),
    .freeze 2,
    .ret (.var 2)])
noncomputable def v_pairs_of : List Str := ["blocks", "row", "found", "number"]
/-- 10: is_level(blocks) -/
noncomputable def m_is_level : MSs := (ss [
    .assign 1 (.op .mkList (es [(.lit (.int 0))])),
    .assign 2 (.lit (.int 1)),
    .loop (.op .eq (es [(.op .item (es [(.op .item (es [(.var 0), (.op .item (es [(.var 1), (.lit (.int 0))]))])), (.lit (.int 0))])), (.lit (.str (Str.ofString "branch")))])) (ss [
      .ite (.not (.op .all (es [(.comp false (.op .eq (es [(.op .item (es [(.op .item (es [(.var 0), (.var 3)])), (.lit (.int 0))])), (.lit (.str (Str.ofString "branch")))])) (.one 3) (.seq (.var 1)) (es []))]))) (ss [
        .ret (.lit (.bool false))]) (ss []),
      .assign 1 (.call 8 (es [(.var 0), (.var 1)])),
      .assign 2 (.op .add (es [(.var 2), (.op .len (es [(.var 1)]))]))]),
    .ite (.not (.op .all (es [(.comp false (.op .eq (es [(.op .item (es [(.op .item (es [(.var 0), (.var 3)])), (.lit (.int 0))])), (.lit (.str (Str.ofString "leaf")))])) (.one 3) (.seq (.var 1)) (es []))]))) (ss [
      .ret (.lit (.bool false))]) (ss []),
    .ret (.and (es [(.op .eq (es [(.var 2), (.op .len (es [(.var 0)]))])), (.call 4 (es [(.call 9 (es [(.var 0), (.var 1)]))]))]))])
noncomputable def v_is_level : List Str := ["blocks", "row", "many", "number"]
/-- 11: sound(blocks, width) -/
noncomputable def m_sound : MSs := (ss [
    .ite (.or (es [(.op .notIn (es [(.lit (.int 0)), (.var 0)])), (.not (.op .all (es [(.comp false (.call 7 (es [(.var 2), (.op .item (es [(.var 0), (.var 2)])), (.var 1)])) (.one 2) (.seq (.var 0)) (es []))])))])) (ss [
      .ret (.lit (.bool false))]) (ss []),
    .assign 3 (.dict true [] (es [])),
    .for1 (.one 2) (.seq (.var 0)) (ss [
      .ite (.op .eq (es [(.op .item (es [(.op .item (es [(.var 0), (.var 2)])), (.lit (.int 0))])), (.lit (.str (Str.ofString "branch")))])) (ss [
        .for1 (.one 4) (.seq (.op .item (es [(.op .item (es [(.var 0), (.var 2)])), (.lit (.int 1))]))) (ss [
          .ite (.or (es [(.op .isIn (es [(.op .item (es [(.var 4), (.lit (.int 1))])), (.var 3)])), (.op .notIn (es [(.op .item (es [(.var 4), (.lit (.int 1))])), (.var 0)]))])) (ss [
            .freeze 3,
            .ret (.lit (.bool false))]) (ss []),
          .ite (.op .ne (es [(.op .item (es [(.op .item (es [(.op .item (es [(.op .item (es [(.var 0), (.op .item (es [(.var 4), (.lit (.int 1))]))])), (.lit (.int 1))])), (.lit (.int 0))])), (.lit (.int 0))])), (.op .item (es [(.var 4), (.lit (.int 0))]))])) (ss [
            .freeze 3,
            .ret (.lit (.bool false))]) (ss []),
          .setSub (.var 3) (.op .item (es [(.var 4), (.lit (.int 1))])) (.lit (.bool true))])]) (ss [])]),
    .freeze 3,
    .ret (.call 10 (es [(.var 0)]))])
noncomputable def v_sound : List Str := ["blocks", "width", "number", "named", "pair"]
/-- 12: _law_cell_at(_law_script, _law_k) -/
noncomputable def m_law_cell_at : MSs := (ss [
    .ite (.op .lt (es [(.var 1), (.op .len (es [(.var 0)]))])) (ss [
      .ret (.op .item (es [(.var 0), (.var 1)]))]) (ss []),
    .ret (.lit (.int 0))])
noncomputable def v_law_cell_at : List Str := ["_law_script", "_law_k"]
/-- 13: _law_width_by(_law_cell) -/
noncomputable def m_law_width_by : MSs := (ss [
    .ite (.op .eq (es [(.op .mod (es [(.var 0), (.lit (.int 8))])), (.lit (.int 7))])) (ss [
      .ret (.op .add (es [(.lit (.int 3)), (.op .mod (es [(.op .div (es [(.var 0), (.lit (.int 8))])), (.lit (.int 62))]))]))]) (ss []),
    .ret (.op .add (es [(.lit (.int 3)), (.op .mod (es [(.op .div (es [(.var 0), (.lit (.int 8))])), (.lit (.int 4))]))]))])
noncomputable def v_law_width_by : List Str := ["_law_cell"]
/-- 14: _law_level(_law_pairs, _law_width, _law_cell) -/
noncomputable def m_law_level : MSs := (ss [
    .assign 3 (.op .neg (es [(.op .div (es [(.op .neg (es [(.op .len (es [(.var 0)]))])), (.var 1)]))])),
    .assign 4 (.op .max2 (es [(.lit (.int 1)), (.op .div (es [(.op .len (es [(.var 0)])), (.op .div (es [(.op .add (es [(.var 1), (.lit (.int 1))])), (.lit (.int 2))]))]))])),
    .assign 5 (.op .add (es [(.var 3), (.op .mod (es [(.var 2), (.op .add (es [(.op .sub (es [(.var 4), (.var 3)])), (.lit (.int 1))]))]))])),
    .assign 6 (.op .mkListM (es [])),
    .assign 7 (.lit (.int 0)),
    .for1 (.one 8) (.range (es [(.var 5)])) (ss [
      .assign 9 (.op .add (es [(.op .div (es [(.op .len (es [(.var 0)])), (.var 5)])), (.op .int (es [(.op .lt (es [(.var 8), (.op .mod (es [(.op .len (es [(.var 0)])), (.var 5)]))]))]))])),
      .expr (.meth .append (.var 6) (es [(.op .tuple (es [(.op (.slice true true) (es [(.var 0), (.var 7), (.op .add (es [(.var 7), (.var 9)]))]))]))])),
      .assign 7 (.op .add (es [(.var 7), (.var 9)]))]),
    .freeze 6,
    .ret (.var 6)])
noncomputable def v_law_level : List Str := ["_law_pairs", "_law_width", "_law_cell", "_law_least", "_law_most", "_law_many", "_law_rows", "_law_at", "_law_k", "_law_size"]
/-- 15: _law_tree_by(_law_pairs, _law_width, _law_cell) -/
noncomputable def m_law_tree_by : MSs := (ss [
    .assign 3 (.dict true [] (es [])),
    .assign 4 (.lit (.str (Str.ofString "leaf"))),
    .assign 5 (.op .add (es [(.lit (.int 1)), (.op .mod (es [(.var 2), (.lit (.int 3))]))])),
    .loop (.op .gt (es [(.op .len (es [(.var 0)])), (.var 1)])) (ss [
      .assign 6 (.op .mkListM (es [])),
      .for1 (.one 7) (.seq (.call 14 (es [(.var 0), (.var 1), (.op .div (es [(.var 2), (.lit (.int 3))]))]))) (ss [
        .setSub (.var 3) (.var 5) (.op .mkTup (es [(.var 4), (.var 7)])),
        .expr (.meth .append (.var 6) (es [(.op .mkTup (es [(.op .item (es [(.op .item (es [(.var 7), (.lit (.int 0))])), (.lit (.int 0))])), (.var 5)]))])),
        .assign 5 (.op .add (es [(.op .add (es [(.var 5), (.lit (.int 1))])), (.op .mod (es [(.op .div (es [(.var 2), (.lit (.int 5))])), (.lit (.int 2))]))]))]),
      .freeze 6,
      .assign 0 (.var 6),
      .assign 4 (.lit (.str (Str.ofString "branch")))]),
    .setSub (.var 3) (.lit (.int 0)) (.op .mkTup (es [(.var 4), (.op .tuple (es [(.var 0)]))])),
    .freeze 3,
    .ret (.var 3)])
noncomputable def v_law_tree_by : List Str := ["_law_pairs", "_law_width", "_law_cell", "_law_blocks", "_law_kind", "_law_number", "_law_above", "_law_row"]
/-- 16: _law_pair_spoilt(_law_kind, _law_pair, _law_cell) -/
noncomputable def m_law_pair_spoilt : MSs := (ss [
    .ite (.op .eq (es [(.op .mod (es [(.var 2), (.lit (.int 3))])), (.lit (.int 0))])) (ss [
      .ret (.op .mkTup (es [(.op .item (es [(.op .mkList (es [(.lit (.bool true)), (.op .pow (es [(.lit (.int 10)), (.lit (.int 60))])), (.op .str (es [(.op .item (es [(.var 1), (.lit (.int 0))]))])), (.lit .none)])), (.op .mod (es [(.op .div (es [(.var 2), (.lit (.int 3))])), (.lit (.int 4))]))])), (.op .item (es [(.var 1), (.lit (.int 1))]))]))]) (ss []),
    .ite (.op .eq (es [(.var 0), (.lit (.str (Str.ofString "leaf")))])) (ss [
      .ret (.op .mkTup (es [(.op .item (es [(.var 1), (.lit (.int 0))])), (.op .item (es [(.op .mkList (es [(.op .mul (es [(.lit (.str (Str.ofString "v"))), (.lit (.int 61))])), (.lit (.str (Str.ofString "a\tb"))), (.lit .none), (.lit (.int 7))])), (.op .mod (es [(.op .div (es [(.var 2), (.lit (.int 3))])), (.lit (.int 4))]))]))]))]) (ss []),
    .ret (.op .mkTup (es [(.op .item (es [(.var 1), (.lit (.int 0))])), (.op .item (es [(.op .mkList (es [(.lit (.bool true)), (.lit (.int 0)), (.op .neg (es [(.lit (.int 1))])), (.lit (.str (Str.ofString "1")))])), (.op .mod (es [(.op .div (es [(.var 2), (.lit (.int 3))])), (.lit (.int 4))]))]))]))])
noncomputable def v_law_pair_spoilt : List Str := ["_law_kind", "_law_pair", "_law_cell"]
/-- 17: _law_block_spoilt(_law_block, _law_root, _law_way, _law_width, _law_more) -/
noncomputable def m_law_block_spoilt : MSs := (ss [
    .assign 5 (.op .item (es [(.var 0), (.lit (.int 0))])),
    .assign 6 (.op .item (es [(.var 0), (.lit (.int 1))])),
    .ite (.and (es [(.op .eq (es [(.var 2), (.lit (.int 0))])), (.op .gt (es [(.op .len (es [(.var 6)])), (.lit (.int 1))]))])) (ss [
      .ret (.op .mkTup (es [(.var 5), (.op .rev (es [(.var 6), (.op .neg (es [(.lit (.int 1))]))]))]))]) (ss []),
    .ite (.and (es [(.op .eq (es [(.var 2), (.lit (.int 1))])), (.var 1), (.op .eq (es [(.var 5), (.lit (.str (Str.ofString "branch")))]))])) (ss [
      .ret (.op .mkTup (es [(.var 5), (.op (.slice false true) (es [(.var 6), (.lit (.int 1))]))]))]) (ss []),
    .ite (.and (es [(.op .eq (es [(.var 2), (.lit (.int 1))])), (.not (.var 1))])) (ss [
      .ret (.op .mkTup (es [(.var 5), (.op (.slice false true) (es [(.var 6), (.op .sub (es [(.op .div (es [(.op .add (es [(.var 3), (.lit (.int 1))])), (.lit (.int 2))])), (.lit (.int 1))]))]))]))]) (ss []),
    .ite (.and (es [(.op .eq (es [(.var 2), (.lit (.int 2))])), (.or (es [(.not (.var 1)), (.op .eq (es [(.var 5), (.lit (.str (Str.ofString "branch")))]))]))])) (ss [
      .ret (.op .mkTup (es [(.var 5), (.op .add (es [(.op .mkTup (es [(.op .mkTup (es [(.op .sub (es [(.op .item (es [(.op .item (es [(.var 6), (.lit (.int 0))])), (.lit (.int 0))])), (.lit (.int 1))])), (.op .item (es [(.op .item (es [(.var 6), (.lit (.int 0))])), (.lit (.int 1))]))]))])), (.op (.slice true false) (es [(.var 6), (.lit (.int 1))]))]))]))]) (ss []),
    .ite (.and (es [(.op .eq (es [(.var 2), (.lit (.int 3))])), (.op .eq (es [(.var 5), (.lit (.str (Str.ofString "branch")))]))])) (ss [
      .ret (.op .mkTup (es [(.var 5), (.op .add (es [(.op (.slice false true) (es [(.var 6), (.op .neg (es [(.lit (.int 1))]))])), (.op .mkTup (es [(.op .mkTup (es [(.op .item (es [(.op .item (es [(.var 6), (.op .neg (es [(.lit (.int 1))]))])), (.lit (.int 0))])), (.op .item (es [(.op .item (es [(.var 6), (.lit (.int 0))])), (.lit (.int 1))]))]))]))]))]))]) (ss []),
    .ite (.and (es [(.op .eq (es [(.var 2), (.lit (.int 4))])), (.op .gt (es [(.op .len (es [(.var 6)])), (.lit (.int 0))]))])) (ss [
      .ret (.op .mkTup (es [(.var 5), (.op .add (es [(.var 6), (.op .tuple (es [(.comp false (.op .mkTup (es [(.op .add (es [(.op .item (es [(.op .item (es [(.var 6), (.op .neg (es [(.lit (.int 1))]))])), (.lit (.int 0))])), (.var 7)])), (.op .item (es [(.op .item (es [(.var 6), (.op .neg (es [(.lit (.int 1))]))])), (.lit (.int 1))]))])) (.one 7) (.range (es [(.lit (.int 1)), (.op .sub (es [(.op .add (es [(.var 3), (.lit (.int 2))])), (.op .len (es [(.var 6)]))]))])) (es []))]))]))]))]) (ss []),
    .ite (.and (es [(.op .eq (es [(.var 2), (.lit (.int 5))])), (.op .gt (es [(.op .len (es [(.var 6)])), (.lit (.int 0))]))])) (ss [
      .assign 8 (.op .mod (es [(.var 4), (.op .len (es [(.var 6)]))])),
      .ret (.op .mkTup (es [(.var 5), (.op .add (es [(.op .add (es [(.op (.slice false true) (es [(.var 6), (.var 8)])), (.op .mkTup (es [(.call 16 (es [(.var 5), (.op .item (es [(.var 6), (.var 8)])), (.op .div (es [(.var 4), (.lit (.int 64))]))]))]))])), (.op (.slice true false) (es [(.var 6), (.op .add (es [(.var 8), (.lit (.int 1))]))]))]))]))]) (ss []),
    .ret (.op .item (es [(.op .mkList (es [(.lit .none), (.lit .none), (.lit .none), (.lit .none), (.lit .none), (.lit .none), (.op .mkTup (es [(.var 5), (.op .list (es [(.var 6)]))])), (.op .mkTup (es [(.op .add (es [(.var 5), (.lit (.str (Str.ofString "es")))])), (.var 6)])), (.lit (.int 7))])), (.var 2)]))])
noncomputable def v_law_block_spoilt : List Str := ["_law_block", "_law_root", "_law_way", "_law_width", "_law_more", "_law_kind", "_law_pairs", "_law_k", "_law_at"]
/-- 18: _law_deeper(_law_found, _law_number, _law_first, _law_more, _law_width) -/
noncomputable def m_law_deeper : MSs := (ss [
    .assign 5 (.op .div (es [(.op .add (es [(.var 4), (.lit (.int 1))])), (.lit (.int 2))])),
    .assign 6 (.op .mkListM (es [])),
    .for1 (.one 7) (.range (es [(.op .min2 (es [(.lit (.int 3)), (.var 5)]))])) (ss [
      .assign 8 (.op .add (es [(.var 2), (.op .mul (es [(.var 7), (.var 5)]))])),
      .setSub (.var 0) (.op .add (es [(.var 3), (.var 7)])) (.op .mkTup (es [(.lit (.str (Str.ofString "leaf"))), (.op .tuple (es [(.comp false (.op .mkTup (es [(.op .add (es [(.var 8), (.var 9)])), (.lit (.str (Str.ofString "v")))])) (.one 9) (.range (es [(.var 5)])) (es []))]))])),
      .expr (.meth .append (.var 6) (es [(.op .mkTup (es [(.var 8), (.op .add (es [(.var 3), (.var 7)]))]))]))]),
    .setSub (.var 0) (.var 1) (.op .mkTup (es [(.lit (.str (Str.ofString "branch"))), (.op .tuple (es [(.var 6)]))])),
    .ret (.var 0)])
noncomputable def v_law_deeper : List Str := ["_law_found", "_law_number", "_law_first", "_law_more", "_law_width", "_law_size", "_law_above", "_law_k", "_law_at", "_law_n"]
/-- 19: _law_ringed(_law_found, _law_top, _law_more) -/
noncomputable def m_law_ringed : MSs := (ss [
    .setSub (.var 0) (.var 2) (.op .mkTup (es [(.lit (.str (Str.ofString "branch"))), (.op .mkTup (es [(.op .mkTup (es [(.op .add (es [(.var 1), (.lit (.int 1))])), (.op .add (es [(.var 2), (.lit (.int 1))]))])), (.op .mkTup (es [(.op .add (es [(.var 1), (.lit (.int 10))])), (.op .add (es [(.var 2), (.lit (.int 2))]))]))]))])),
    .setSub (.var 0) (.op .add (es [(.var 2), (.lit (.int 1))])) (.op .mkTup (es [(.lit (.str (Str.ofString "branch"))), (.op .mkTup (es [(.op .mkTup (es [(.op .add (es [(.var 1), (.lit (.int 1))])), (.var 2)])), (.op .mkTup (es [(.op .add (es [(.var 1), (.lit (.int 20))])), (.op .add (es [(.var 2), (.lit (.int 3))]))]))]))])),
    .setSub (.var 0) (.op .add (es [(.var 2), (.lit (.int 2))])) (.op .mkTup (es [(.lit (.str (Str.ofString "leaf"))), (.op .mkTup (es [(.op .mkTup (es [(.op .add (es [(.var 1), (.lit (.int 10))])), (.lit (.str (Str.ofString "v")))])), (.op .mkTup (es [(.op .add (es [(.var 1), (.lit (.int 11))])), (.lit (.str (Str.ofString "v")))]))]))])),
    .setSub (.var 0) (.op .add (es [(.var 2), (.lit (.int 3))])) (.op .mkTup (es [(.lit (.str (Str.ofString "leaf"))), (.op .mkTup (es [(.op .mkTup (es [(.op .add (es [(.var 1), (.lit (.int 20))])), (.lit (.str (Str.ofString "v")))])), (.op .mkTup (es [(.op .add (es [(.var 1), (.lit (.int 21))])), (.lit (.str (Str.ofString "v")))]))]))])),
    .ret (.var 0)])
noncomputable def v_law_ringed : List Str := ["_law_found", "_law_top", "_law_more"]
/-- 20: _law_tree_spoilt(_law_blocks, _law_number, _law_way, _law_top, _law_width, _law_cell) -/
noncomputable def m_law_tree_spoilt : MSs := (ss [
    .assign 6 (.op .dict (es [(.var 0)])),
    .assign 7 (.op .item (es [(.op .item (es [(.var 0), (.var 1)])), (.lit (.int 0))])),
    .assign 8 (.op .item (es [(.op .item (es [(.var 0), (.var 1)])), (.lit (.int 1))])),
    .assign 9 (.op .add (es [(.op .maxL (es [(.op .list (es [(.var 0)]))])), (.lit (.int 1))])),
    .ite (.op .eq (es [(.var 2), (.lit (.int 9))])) (ss [
      .expr (.meth .popD (.var 6) (es [(.var 1)])),
      .freeze 6,
      .ret (.var 6)]) (ss []),
    .ite (.op .eq (es [(.var 2), (.lit (.int 10))])) (ss [
      .assign 10 (.op .mkTup (es [(.lit (.str (Str.ofString "leaf"))), (.op .mkTup (es [(.op .mkTup (es [(.op .add (es [(.var 3), (.lit (.int 1))])), (.lit (.str (Str.ofString "v")))])), (.op .mkTup (es [(.op .add (es [(.var 3), (.lit (.int 2))])), (.lit (.str (Str.ofString "v")))])), (.op .mkTup (es [(.op .add (es [(.var 3), (.lit (.int 3))])), (.lit (.str (Str.ofString "v")))]))]))])),
      .setSub (.var 6) (.op .item (es [(.op .mkList (es [(.var 9), (.op .neg (es [(.lit (.int 1))])), (.op .add (es [(.var 9), (.var 5)]))])), (.op .mod (es [(.var 5), (.lit (.int 3))]))])) (.op .item (es [(.op .mkList (es [(.var 10), (.lit .none), (.lit (.int 7)), (.op .mkTup (es [(.lit (.str (Str.ofString "leaf"))), (.op .mkTup (es []))]))])), (.op .mod (es [(.op .div (es [(.var 5), (.lit (.int 3))])), (.lit (.int 4))]))])),
      .freeze 6,
      .ret (.var 6)]) (ss []),
    .ite (.op .eq (es [(.var 2), (.lit (.int 14))])) (ss [
      .ret (.frz (.call 19 (es [(.var 6), (.var 3), (.var 9)])))]) (ss []),
    .ite (.or (es [(.op .eq (es [(.var 7), (.lit (.str (Str.ofString "branch")))])), (.op .eq (es [(.var 1), (.lit (.int 0))]))])) (ss [
      .ret (.lit .none)]) (ss []),
    .ite (.op .eq (es [(.var 2), (.lit (.int 11))])) (ss [
      .ret (.frz (.call 18 (es [(.var 6), (.var 1), (.op .item (es [(.op .item (es [(.var 8), (.lit (.int 0))])), (.lit (.int 0))])), (.var 9), (.var 4)])))]) (ss []),
    .ite (.op .eq (es [(.op .item (es [(.op .item (es [(.var 8), (.op .neg (es [(.lit (.int 1))]))])), (.lit (.int 0))])), (.var 3)])) (ss [
      .ret (.lit .none)]) (ss []),
    .ite (.op .eq (es [(.var 2), (.lit (.int 12))])) (ss [
      .assign 3 (.op .add (es [(.op .item (es [(.op .item (es [(.var 8), (.op .neg (es [(.lit (.int 1))]))])), (.lit (.int 0))])), (.lit (.int 3))]))]) (ss []),
    .setSub (.var 6) (.var 1) (.op .mkTup (es [(.lit (.str (Str.ofString "leaf"))), (.op .add (es [(.op (.slice false true) (es [(.var 8), (.op .neg (es [(.lit (.int 1))]))])), (.op .mkTup (es [(.op .mkTup (es [(.var 3), (.lit (.str (Str.ofString "v")))]))]))]))])),
    .freeze 6,
    .ret (.var 6)])
noncomputable def v_law_tree_spoilt : List Str := ["_law_blocks", "_law_number", "_law_way", "_law_top", "_law_width", "_law_cell", "_law_found", "_law_kind", "_law_pairs", "_law_more", "_law_leaf"]
/-- 21: _law_says(_law_found, _law_due) -/
noncomputable def m_law_says : MSs := (ss [
    .ret (.and (es [(.or (es [(.op .is (es [(.var 0), (.lit (.bool true))])), (.op .is (es [(.var 0), (.lit (.bool false))]))])), (.op .eq (es [(.var 0), (.var 1)]))]))])
noncomputable def v_law_says : List Str := ["_law_found", "_law_due"]
/-- 22: _law_as_wide(_law_blocks, _law_width) -/
noncomputable def m_law_as_wide : MSs := (ss [
    .for1 (.one 2) (.seq (.op .list (es [(.var 0)]))) (ss [
      .ite (.and (es [(.op .gt (es [(.var 2), (.lit (.int 0))])), (.op .lt (es [(.op .len (es [(.op .item (es [(.op .item (es [(.var 0), (.var 2)])), (.lit (.int 1))]))])), (.op .div (es [(.op .add (es [(.var 1), (.lit (.int 1))])), (.lit (.int 2))]))]))])) (ss [
        .ret (.lit (.bool false))]) (ss [])]),
    .ret (.lit (.bool true))])
noncomputable def v_law_as_wide : List Str := ["_law_blocks", "_law_width", "_law_number"]
/-- 23: _law_spoilt(_law_blocks, _law_number, _law_way, _law_width, _law_top, _law_more) -/
noncomputable def m_law_spoilt : MSs := (ss [
    .ite (.op .gt (es [(.var 2), (.lit (.int 8))])) (ss [
      .ret (.call 20 (es [(.var 0), (.var 1), (.var 2), (.var 4), (.var 3), (.var 5)]))]) (ss []),
    .assign 6 (.call 17 (es [(.op .item (es [(.var 0), (.var 1)])), (.op .eq (es [(.var 1), (.lit (.int 0))])), (.var 2), (.var 3), (.var 5)])),
    .ite (.op .is (es [(.var 6), (.lit .none)])) (ss [
      .ret (.lit .none)]) (ss []),
    .assign 7 (.op .dict (es [(.var 0)])),
    .setSub (.var 7) (.var 1) (.var 6),
    .freeze 7,
    .ret (.var 7)])
noncomputable def v_law_spoilt : List Str := ["_law_blocks", "_law_number", "_law_way", "_law_width", "_law_top", "_law_more", "_law_block", "_law_found"]
/-- 24: law(_law_script) -/
noncomputable def m_law : MSs := (ss [
    .assign 1 (.call 13 (es [(.call 12 (es [(.var 0), (.lit (.int 0))]))])),
    .assign 2 (.op .mod (es [(.call 12 (es [(.var 0), (.lit (.int 1))])), (.lit (.int 41))])),
    .ite (.or (es [(.op .eq (es [(.op .mod (es [(.op .div (es [(.call 12 (es [(.var 0), (.lit (.int 1))])), (.lit (.int 41))])), (.lit (.int 4))])), (.lit (.int 1))])), (.op .gt (es [(.var 1), (.lit (.int 6))]))])) (ss [
      .assign 2 (.op .mod (es [(.op .mod (es [(.op .mul (es [(.call 12 (es [(.var 0), (.lit (.int 1))])), (.lit (.int 48271))])), (.lit (.int 1009))])), (.lit (.int 201))]))]) (ss []),
    .assign 3 (.op .sub (es [(.op .mod (es [(.call 12 (es [(.var 0), (.lit (.int 2))])), (.lit (.int 2000))])), (.lit (.int 1000))])),
    .assign 4 (.comp false (.op .mkTup (es [(.op .add (es [(.var 3), (.op .mul (es [(.lit (.int 3)), (.var 5)]))])), (.op .mul (es [(.lit (.str (Str.ofString "v"))), (.op .mod (es [(.var 5), (.lit (.int 3))]))]))])) (.one 5) (.range (es [(.var 2)])) (es [])),
    .assign 6 (.call 15 (es [(.var 4), (.var 1), (.op .mod (es [(.call 12 (es [(.var 0), (.lit (.int 3))])), (.lit (.int 9000))]))])),
    .assign 7 (.op .dictF (es [(.var 6)])),
    .ite (.or (es [(.op .isNot (es [(.call 11 (es [(.var 7), (.var 1)])), (.lit (.bool true))])), (.op .ne (es [(.var 7), (.var 6)]))])) (ss [
      .ret (.lit (.bool false))]) (ss []),
    .ite (.op .eq (es [(.op .mod (es [(.call 12 (es [(.var 0), (.lit (.int 4))])), (.lit (.int 4))])), (.lit (.int 0))])) (ss [
      .ret (.call 21 (es [(.call 11 (es [(.var 7), (.op .min2 (es [(.lit (.int 64)), (.op .add (es [(.var 1), (.lit (.int 1))]))]))])), (.or (es [(.op .eq (es [(.var 1), (.lit (.int 64))])), (.call 22 (es [(.var 6), (.op .add (es [(.var 1), (.lit (.int 1))]))]))]))]))]) (ss []),
    .assign 8 (.op .sorted (es [(.op .list (es [(.var 6)]))])),
    .assign 9 (.op .item (es [(.var 8), (.op .mod (es [(.call 12 (es [(.var 0), (.lit (.int 5))])), (.op .len (es [(.var 8)]))]))])),
    .assign 10 (.op .mod (es [(.call 12 (es [(.var 0), (.lit (.int 6))])), (.lit (.int 9000))])),
    .assign 11 (.call 23 (es [(.var 6), (.var 9), (.op .mod (es [(.op .div (es [(.call 12 (es [(.var 0), (.lit (.int 4))])), (.lit (.int 4))])), (.lit (.int 15))])), (.var 1), (.op .sub (es [(.op .add (es [(.var 3), (.op .mul (es [(.lit (.int 3)), (.var 2)]))])), (.lit (.int 3))])), (.var 10)])),
    .ret (.or (es [(.op .is (es [(.var 11), (.lit .none)])), (.op .is (es [(.call 11 (es [(.var 11), (.var 1)])), (.lit (.bool false))]))]))])
noncomputable def v_law : List Str := ["_law_script", "_law_width", "_law_size", "_law_first", "_law_row", "_law_k", "_law_blocks", "_law_handed", "_law_numbers", "_law_number", "_law_more", "_law_other"]
noncomputable def recs : List DefRec := recsOf PySem.Challenge.pw_uf020012_07
noncomputable def rcd (n : Str) : DefRec := ((recs.find? fun d => d.name == n).getD ⟨n, ⟨[], [], none, [], [], none, []⟩, [], ⟨.function, [], false, false, []⟩, default⟩)
noncomputable def tab : Tab := ⟨[⟨rcd "is_whole", m_is_whole, v_is_whole⟩, ⟨rcd "is_key", m_is_key, v_is_key⟩, ⟨rcd "is_value", m_is_value, v_is_value⟩, ⟨rcd "half", m_half, v_half⟩, ⟨rcd "rises", m_rises, v_rises⟩, ⟨rcd "is_pair", m_is_pair, v_is_pair⟩, ⟨rcd "is_block", m_is_block, v_is_block⟩, ⟨rcd "is_fit", m_is_fit, v_is_fit⟩, ⟨rcd "below", m_below, v_below⟩, ⟨rcd "pairs_of", m_pairs_of, v_pairs_of⟩, ⟨rcd "is_level", m_is_level, v_is_level⟩, ⟨rcd "sound", m_sound, v_sound⟩, ⟨rcd "_law_cell_at", m_law_cell_at, v_law_cell_at⟩, ⟨rcd "_law_width_by", m_law_width_by, v_law_width_by⟩, ⟨rcd "_law_level", m_law_level, v_law_level⟩, ⟨rcd "_law_tree_by", m_law_tree_by, v_law_tree_by⟩, ⟨rcd "_law_pair_spoilt", m_law_pair_spoilt, v_law_pair_spoilt⟩, ⟨rcd "_law_block_spoilt", m_law_block_spoilt, v_law_block_spoilt⟩, ⟨rcd "_law_deeper", m_law_deeper, v_law_deeper⟩, ⟨rcd "_law_ringed", m_law_ringed, v_law_ringed⟩, ⟨rcd "_law_tree_spoilt", m_law_tree_spoilt, v_law_tree_spoilt⟩, ⟨rcd "_law_says", m_law_says, v_law_says⟩, ⟨rcd "_law_as_wide", m_law_as_wide, v_law_as_wide⟩, ⟨rcd "_law_spoilt", m_law_spoilt, v_law_spoilt⟩, ⟨rcd "law", m_law, v_law⟩], gcs_uf020012_07⟩
theorem tab_ag : tab.fns.all (agFn tab.pg) = true := by decide +kernel
end

section

open PySem PyProof.Rows
set_option linter.unusedVariables false
set_option linter.unusedSimpArgs false
set_option maxRecDepth 100000
theorem w_dict0 {Φ : Spec} {G : Nat → V} {ls : Ls} {Q : Post} {σ : View} : ewp Φ G ls (.dict true [] .nil) Q σ ↔ ∀ a, σ a = none → Q (.ref a) (σ.upd a (.dict false [])) := ⟨fun h => h.2.2, fun h => ⟨List.nodup_nil, rfl, h⟩⟩
theorem cut_dict {Φ : Spec} {G : Nat → V} {ls : Ls} {Q : View → Ls → Prop} {R : Post} {σ : View} {i : Nat} {r : MSs} (k : ∀ a, σ a = none → swps Φ G r Q R (σ.upd a (.dict false [])) (ls.set i (.ref a))) : swps Φ G (.cons (.assign i (.dict true [] .nil)) r) Q R σ ls := by
  show ewp Φ G ls (.dict true [] .nil) (fun d σ' => swps Φ G r Q R σ' (ls.set i d)) σ
  exact w_dict0.mpr k
theorem cut_freezeD {Φ : Spec} {G : Nat → V} {ls : Ls} {Q : View → Ls → Prop} {R : Post} {σ : View} {i : Nat} {r : MSs} {a : Addr} {es : List (Int × V)} (h1 : ls i = some (.ref a)) (h2 : σ a = some (.dict false es)) (k : swps Φ G r Q R (σ.del a) (ls.set i (.dct es))) : swps Φ G (.cons (.freeze i) r) Q R σ ls := by
  show ∃ a, ls i = some (.ref a) ∧ ((∃ xs, σ a = some (.list false xs) ∧ swps Φ G r Q R (σ.del a) (ls.set i (.lst xs))) ∨ (∃ es, σ a = some (.dict false es) ∧ swps Φ G r Q R (σ.del a) (ls.set i (.dct es))))
  exact ⟨a, h1, .inr ⟨es, h2, k⟩⟩
theorem cut_freezeL {Φ : Spec} {G : Nat → V} {ls : Ls} {Q : View → Ls → Prop} {R : Post} {σ : View} {i : Nat} {r : MSs} {a : Addr} {xs : List V} (h1 : ls i = some (.ref a)) (h2 : σ a = some (.list false xs)) (k : swps Φ G r Q R (σ.del a) (ls.set i (.lst xs))) : swps Φ G (.cons (.freeze i) r) Q R σ ls :=
  ⟨a, h1, .inl ⟨xs, h2, k⟩⟩
noncomputable def notNone : V → Bool
  | .none => false
  | _ => true
theorem none_of {v : V} (h : notNone v = false) : v = .none := by
  cases v <;> first | rfl | exact ff2 h
theorem p_dict_d {es : List (Int × V)} {Q : Post} {σ : View} : prim .dict [.dct es] Q σ ↔ ∀ a, σ a = none → Q (.ref a) (σ.upd a (.dict false es)) :=
  ⟨fun hx => by obtain ⟨_, e, h⟩ := hx; exact by cases Option.some.inj e; exact h, fun h => ⟨es, rfl, h⟩⟩
end

section

open PySem PySem.W PySem.Calls PyProof.Rows
set_option maxRecDepth 100000
set_option linter.unusedSimpArgs false
set_option linter.unusedVariables false
noncomputable def OkVal (p : Int × V) : Prop := Dat 10 p.2 ∧ ∀ k ps, p.2 = .tup [k, .tup ps] → ps.length ≤ big
noncomputable def OkD (es : Dct) : Prop := (keysD es).Nodup ∧ (∀ p ∈ es, OkVal p) ∧ es.length ≤ 10000
noncomputable def sndS (xs : List V) (Q : Post) (σ : View) : Prop := ∃ es w r, xs = [.dct es, .int w] ∧ OkD es ∧ 3 ≤ w ∧ w ≤ 65 ∧ SoundR es w r ∧ Q (.bool r) σ
noncomputable def fitS (xs : List V) (Q : Post) (σ : View) : Prop := ∃ k b w, xs = [.int k, b, .int w] ∧ OkVal (k, b) ∧ Q (.bool (fitF k b w)) σ
noncomputable def belS (xs : List V) (Q : Post) (σ : View) : Prop := ∃ es row, xs = [.dct es, .lst (row.map .int)] ∧ (∀ n ∈ row, ∃ r, lookD n es = some (blkV sBranch r) ∧ r.length ≤ 100 ∧ ∀ p ∈ r, pairF sBranch p = true) ∧ row.length ≤ 10000 ∧ Q (.lst ((belowF es row).map .int)) σ
noncomputable def pofS (xs : List V) (Q : Post) (σ : View) : Prop := ∃ es row, xs = [.dct es, .lst (row.map .int)] ∧ (∀ n ∈ row, ∃ kind r, lookD n es = some (blkV kind r) ∧ r.length ≤ 100) ∧ row.length ≤ 10000 ∧ Q (.lst (rowsOf es row)) σ
noncomputable def levS (xs : List V) (Q : Post) (σ : View) : Prop := ∃ es w r, xs = [.dct es] ∧ 3 ≤ w ∧ w ≤ 65 ∧ (∀ p ∈ es, fitF p.1 p.2 w = true) ∧ NamedOk es ∧ (lookD 0 es).isSome = true ∧ es.length ≤ 10000 ∧ Lev es [0] 1 r ∧ Q (.bool r) σ
noncomputable def halfS (xs : List V) (Q : Post) (σ : View) : Prop := ∃ w, xs = [.int w] ∧ Q (.int (halfI w)) σ
theorem risesS_ok (Φ : Spec) (hM : SpecMono Φ) (Gc : Nat → V) {xs : List V} {Q : Post} {σ : View} (h : risesS xs Q σ) : xs.length = 1 ∧ swps Φ Gc m_rises (fun σ' _ => Q .none σ') Q σ (argLs xs) := by
  obtain ⟨ps, d, rfl, hd, hl, hp, h⟩ := h
  have hL : ∀ σ, lenOf σ d = some ps.length := fun σ => by rcases hd with rfl | rfl <;> rfl
  have hI : ∀ σ (i : Nat), i < ps.length → itemV σ d (.int i) = some (ps.getD i .none) := fun σ i hi => by
    have : ((idxOf (i : Int) ps.length).bind fun j => ps[j]?) = some (ps.getD i .none) := by rw [idxOf_nat hi]; simp [hi]
    rcases hd with rfl | rfl <;> exact this
  refine ⟨rfl, ?_⟩
  delta m_rises ss
  skip
  refine c_for_r2 hM (lo := 1) (hi := ps.length) (fun j σ' ls' => σ' = σ ∧ ls' 0 = some d ∧ ∀ i, i < j → i + 1 < ps.length → keyOf (ps.getD i .none) < keyOf (ps.getD (i + 1) .none)) (opt_map (hL σ) ⟨rfl, rfl⟩) (rfl) (smallI_of (by (first | lia | omega)) (by unfold big at hl; (first | lia | omega))) ⟨rfl, rfl, fun i hi => absurd hi (Nat.not_lt_zero _)⟩ ?_ ?_
  · rintro j hj σ' ls' ⟨rfl, l0, hk⟩
    have hj1 : j + 1 < ps.length := by (first | lia | omega)
    refine Exists.elim (hp _ (getD_mem (xs := ps) (i := j) (by (first | lia | omega)))) fun k1 hx => ?_; obtain ⟨r1, e1⟩ := hx
    refine Exists.elim (hp _ (getD_mem (xs := ps) (i := j + 1) hj1)) fun k2 hx => ?_; obtain ⟨r2, e2⟩ := hx
    have i1 : itemV σ' d (.int (1 + (j : Int) - 1)) = some (.tup (.int k1 :: r1)) := by rw [show (1 + (j : Int) - 1) = (j : Nat) by (first | lia | omega), hI σ' j (by (first | lia | omega)), e1]
    have i2 : itemV σ' d (.int (1 + (j : Int))) = some (.tup (.int k2 :: r2)) := by rw [show (1 + (j : Int)) = ((j + 1 : Nat) : Int) by (first | lia | omega), hI σ' (j + 1) hj1, e2]
    refine ctwp_t hM ?_
    refine opt_of l0 (opt_of i1 ?_)
    refine opt_of (r_it_t0 (σ := σ')) ?_
    refine opt_of l0 (opt_of i2 ?_)
    refine opt_of (r_it_t0 (σ := σ')) ?_
    sizeOf_list_dec
    by_cases q : k2 ≤ k1
    · rw [decide_eq_true q]
      have : risesF ps = false := by
        cases hr : risesF ps with
        | false => rfl
        | true => have := rises_iff.mp hr j hj1; simp only [e1, e2] at this; simp only [keyOf] at this; (first | lia | omega)
      rw [this] at h; exact h
    · rw [decide_eq_false q]
      refine ⟨rfl, l0, fun i hi hi2 => ?_⟩
      by_cases qi : i = j
      · cases qi; simp only [e1, e2]; simp only [keyOf]; (first | lia | omega)
      · exact hk i (by (first | lia | omega)) hi2
  · rintro σ' ls' ⟨rfl, l0, hk⟩
    have : risesF ps = true := rises_iff.mpr fun i hi => hk i (by (first | lia | omega)) hi
    rw [this] at h
    exact c_ret hM h
theorem half_ok (Φ : Spec) (hM : SpecMono Φ) (Gc : Nat → V) {xs : List V} {Q : Post} {σ : View} (h : halfS xs Q σ) : xs.length = 1 ∧ swps Φ Gc m_half (fun σ' _ => Q .none σ') Q σ (argLs xs) := by
  obtain ⟨w, rfl, h⟩ := h
  refine ⟨rfl, ?_⟩
  skip
  skip
  refine c_ret hM ?_
  sizeOf_list_dec
  exact h
theorem fit_ok (Φ : Spec) (hM : SpecMono Φ) (Gc : Nat → V) (hB : ∀ xs Q σ, blockS xs Q σ → Φ 6 xs Q σ) (hH : ∀ xs Q σ, halfS xs Q σ → Φ 3 xs Q σ) {xs : List V} {Q : Post} {σ : View} (h : fitS xs Q σ) : xs.length = 3 ∧ swps Φ Gc m_is_fit (fun σ' _ => Q .none σ') Q σ (argLs xs) := by
  obtain ⟨k, b, w, rfl, ⟨hd, hl⟩, h⟩ := h
  refine ⟨rfl, ?_⟩
  skip
  skip
  have hblk : ∀ l m, (∀ Q σ, Q (.bool (blockF b l m)) σ → Φ 6 [b, .int l, .int m] Q σ) := fun l m Q σ hq => hB _ _ _ ⟨b, l, m, 10, rfl, hd, fun w ps e => hl w ps e, hq⟩
  by_cases q : k = 0
  · subst q
    refine c_guard hM ?_ ?_
    · sizeOf_list_dec
      exact ⟨rfl, rfl⟩
    unfold fitF at h
    rw [if_pos rfl] at h
    cases hb : blockF b 0 w with
    | false =>
      rw [hb] at h
      refine c_ite_ret hM ?_ h
      refine hblk _ _ _ _ ?_
      exact hb ▸ (⟨rfl, rfl⟩)
    | true =>
      rw [hb, Bool.true_and] at h
      refine c_guard hM ?_ ?_
      · refine hblk _ _ _ _ ?_
        exact hb ▸ (⟨rfl, rfl⟩)
      obtain ⟨kind, r, rfl, hk, _⟩ := block_inv hb
      refine c_ret hM ?_
      skip
      unfold blkV
      sizeOf_list_dec
      have e : isLf (blkV kind r) = decide (kind = Str.ofString "leaf") := rfl
      rw [e] at h
      cases hq : decide (kind = Str.ofString "leaf") with
      | true => rw [hq] at h; exact h
      | false =>
        rw [hq, Bool.false_or] at h
        sizeOf_list_dec
        have e2 : decide ((2 : Int) ≤ (r.length : Int)) = decide (2 ≤ (rowV (blkV kind r)).length) := by
          show decide ((2 : Int) ≤ (r.length : Int)) = decide (2 ≤ r.length)
          congr 1; apply propext; (first | lia | omega)
        exact e2 ▸ h
  · unfold fitF at h
    rw [if_neg q] at h
    refine c_ite_ret hM ?_ ?_
    · sizeOf_list_dec
      exact ⟨rfl, by rw [decide_eq_false q]; rfl⟩
    · sizeOf_list_dec
      exact hH _ _ _ ⟨w, rfl, hblk _ _ _ _ h⟩
theorem rows_len {es : Dct} {row : List Int} (h : ∀ n ∈ row, (rowV (blk es n)).length ≤ 100) : (rowsOf es row).length ≤ 100 * row.length := by
  induction row with
  | nil => exact Nat.le_refl _
  | cons n row ih =>
    simp only [rows_cons, List.length_append, List.length_cons]
    have := h n (.head _)
    have := ih fun x hx => h x (.tail _ hx)
    (first | lia | omega)
theorem rows_take {es : Dct} {row : List Int} {k : Nat} {n : Int} (h : row[k]? = some n) : rowsOf es (row.take (k + 1)) = rowsOf es (row.take k) ++ rowV (blk es n) := by
  simp only [List.take_add_one, h, rows_app]
  skip
  skip; show _ ++ (_ ++ rowsOf es []) = _
  rw [show rowsOf es [] = [] from rfl, List.append_nil]
theorem take_rows_len {es : Dct} {row : List Int} (h : ∀ n ∈ row, (rowV (blk es n)).length ≤ 100) (hr : row.length ≤ 10000) (k : Nat) : (rowsOf es (row.take k)).length ≤ 1000000 := by
  have := rows_len (es := es) (row := row.take k) fun n hn => h n (List.mem_of_mem_take hn)
  have : (row.take k).length ≤ row.length := by rw [List.length_take]; (first | lia | omega)
  (first | lia | omega)
theorem num_pair {p : V} (h : pairF sBranch p = true) : ∃ k n, p = .tup [.int k, .int n] ∧ 1 ≤ n := by
  refine Exists.elim (pair_key h) fun k hx => ?_; obtain ⟨b, rfl⟩ := hx
  have h2 := (Bool.and_eq_true_iff.mp h).2
  simp only [leaf_ne, if_false] at h2
  unfold numF at h2
  split at h2
  · exact ⟨_, _, rfl, of_decide_eq_true h2⟩
  · exact ff h2
theorem bel_ok (Φ : Spec) (hM : SpecMono Φ) (Gc : Nat → V) {xs : List V} {Q : Post} {σ : View} (h : belS xs Q σ) : xs.length = 2 ∧ swps Φ Gc m_below (fun σ' _ => Q .none σ') Q σ (argLs xs) := by
  refine Exists.elim h fun es hx => ?_; obtain ⟨row, rfl, hr, hq1⟩ := hx
  have h100 : ∀ n ∈ row, (rowV (blk es n)).length ≤ 100 := fun n hn => by refine Exists.elim (hr n hn) ?_; rintro r hq0; exact (blk_some hq0.1) ▸ hq0.2.1
  refine ⟨rfl, ?_⟩
  skip
  skip
  refine c_any hM ⟨(Nat.zero_le _), fun a ha => ?_⟩
  refine c_for_l hM (xs := row.map .int) (fun k σ' ls' => σ' = σ.upd a (.list false ((belowF es (row.take k)).map .int)) ∧ ls' 0 = some (.dct es) ∧ ls' 2 = some (.ref a)) ⟨rfl, .inl rfl⟩ ⟨rfl, rfl, rfl⟩ ?_ ?_
  · rintro k v hv σ' ls' ⟨rfl, l0, l2⟩
    rw [List.getElem?_map, Option.map_eq_some_iff] at hv
    obtain ⟨n, hn, rfl⟩ := hv
    obtain ⟨r, e, hl, hp⟩ := hr n (List.mem_iff_getElem?.mpr ⟨k, hn⟩)
    refine c_expr hM (r := .nil) (opt_of l2 ⟨⟨a, false, _, rfl, upd_self _ _ _⟩, ?_⟩)
    sizeOf_list_dec
    refine w_comp_m hM (xs := r) (fun p => .int (numOf p)) (cwp_e hM _ ?_) (by unfold big; (first | lia | omega)) (fun p hpm => cwp_e hM _ ?_) ?_
    · refine opt_of l0 ?_
      sizeOf_list_dec
      refine opt_of e ?_
      skip
      sizeOf_list_dec
      exact ⟨rfl, .inr rfl⟩
    · refine Exists.elim (num_pair (hp p hpm)) fun kk hx => ?_; obtain ⟨nn, rfl, _⟩ := hx
      sizeOf_list_dec
      exact ⟨rfl, rfl⟩
    · have hb := take_rows_len h100 hq1.1 k
      refine ⟨_, upd_self _ _ _, ?_, ?_, l0, l2⟩
      · simp only [List.length_map, List.length_map]; unfold belowF; rw [List.length_map]; unfold big; (first | lia | omega)
      · rw [upd_upd]; unfold belowF; simp only [rows_take hn, blk_some e, List.map_append, List.map_append]
        skip
        simp only [List.map_map]; rfl
  rintro σ' ls' ⟨rfl, l0, l2⟩
  rw [List.length_map, List.take_length]
  refine cut_freezeL l2 (upd_self _ _ _) ?_
  rw [del_upd ha]
  exact c_ret hM hq1.2
theorem pof_ok (Φ : Spec) (hM : SpecMono Φ) (Gc : Nat → V) {xs : List V} {Q : Post} {σ : View} (h : pofS xs Q σ) : xs.length = 2 ∧ swps Φ Gc m_pairs_of (fun σ' _ => Q .none σ') Q σ (argLs xs) := by
  refine Exists.elim h fun es hx => ?_; obtain ⟨row, rfl, hr, hq2⟩ := hx
  have h100 : ∀ n ∈ row, (rowV (blk es n)).length ≤ 100 := fun n hn => by refine Exists.elim (hr n hn) fun kind hx => ?_; obtain ⟨r, hq1⟩ := hx; exact (blk_some hq1.1) ▸ hq1.2
  refine ⟨rfl, ?_⟩
  skip
  skip
  refine c_any hM ⟨(Nat.zero_le _), fun a ha => ?_⟩
  refine c_for_l hM (xs := row.map .int) (fun k σ' ls' => σ' = σ.upd a (.list false (rowsOf es (row.take k))) ∧ ls' 0 = some (.dct es) ∧ ls' 2 = some (.ref a)) ⟨rfl, .inl rfl⟩ ⟨rfl, rfl, rfl⟩ ?_ ?_
  · rintro k v hv σ' ls' ⟨rfl, l0, l2⟩
    rw [List.getElem?_map, Option.map_eq_some_iff] at hv
    obtain ⟨n, hn, rfl⟩ := hv
    obtain ⟨kind, r, hq0⟩ := hr n (List.mem_iff_getElem?.mpr ⟨k, hn⟩)
    refine c_expr hM (r := .nil) (opt_of l2 ⟨⟨a, false, _, rfl, upd_self _ _ _⟩, ?_⟩)
    refine opt_of l0 ?_
    sizeOf_list_dec
    refine opt_of hq0.1 ?_
    skip
    sizeOf_list_dec
    have hb := take_rows_len h100 hq2.1 k
    refine ⟨_, upd_self _ _ _, by unfold big; (first | lia | omega), ?_, l0, l2⟩
    simp only [upd_upd, rows_take hn, blk_some hq0.1]; rfl
  rintro σ' ls' ⟨rfl, l0, l2⟩
  rw [List.length_map, List.take_length]
  refine cut_freezeL l2 (upd_self _ _ _) ?_
  rw [del_upd ha]
  exact c_ret hM hq2.2
end

section

open PySem PySem.W PySem.Calls PyProof.Rows
set_option maxRecDepth 100000
set_option linter.unusedSimpArgs false
set_option linter.unusedVariables false
theorem all_kind {es : Dct} {row : List Int} {w : Str} {Φ : Spec} {G : Nat → V} {ls : Ls} {σ : View} {K : Post} (hM : SpecMono Φ) (l0 : ls 0 = some (.dct es)) (l1 : ls 1 = some (.lst (row.map .int))) (hlen : row.length ≤ 10000)
    (hr : ∀ n ∈ row, ∃ kind r, lookD n es = some (blkV kind r)) {f : V → Bool} (hf : ∀ kind r, f (blkV kind r) = decide (kind = w)) (hQ : K (.bool (row.all fun n => f (blk es n))) σ) :
    cwp Φ G ls (.op .all (.cons (.comp false (.op .eq (.cons (.op .item (.cons (.op .item (.cons (.var 0) (.cons (.var 3) .nil))) (.cons (.lit (.int 0)) .nil))) (.cons (.lit (.str w)) .nil))) (.one 3) (.seq (.var 1)) .nil) .nil)) K σ := by
  sizeOf_list_dec
  refine w_comp_m hM (xs := row.map .int) (fun v => match v with | .int n => .bool (f (blk es n)) | _ => .none) (cwp_e hM _ ?_) (by rw [List.length_map]; unfold big; (first | lia | omega)) (fun v hv => cwp_e hM _ ?_) ?_
  · exact opt_of l1 ⟨rfl, .inl rfl⟩
  · refine Exists.elim (List.mem_map.mp hv) fun n hx => ?_; obtain ⟨hn, rfl⟩ := hx
    obtain ⟨kind, r, e⟩ := hr n hn
    refine opt_of l0 ?_
    sizeOf_list_dec
    refine opt_of e ?_
    skip
    sizeOf_list_dec
    refine ⟨rfl, ?_⟩
    show V.bool (decide (kind = w)) = V.bool (f (blk es n))
    simp only [blk_some e, hf]
  · have : bools? ((row.map V.int).map fun v => match v with | .int n => V.bool (f (blk es n)) | _ => .none) = some (row.map fun n => f (blk es n)) := by
      rw [List.map_map]; exact bools_map (fun n => f (blk es n)) row
    refine opt_of (a := V.bool ((row.map fun n => f (blk es n)).all id)) (by skip; show Option.map _ (bools? _) = _; exact congrArg _ this) ?_
    rw [List.all_map]; exact hQ
theorem lev_ok (Φ : Spec) (hM : SpecMono Φ) (Gc : Nat → V) (hB : ∀ xs Q σ, belS xs Q σ → Φ 8 xs Q σ) (hP : ∀ xs Q σ, pofS xs Q σ → Φ 9 xs Q σ) (hR : ∀ xs Q σ, risesS xs Q σ → Φ 4 xs Q σ) {xs : List V} {Q : Post} {σ : View} (h : levS xs Q σ) : xs.length = 1 ∧ swps Φ Gc m_is_level (fun σ' _ => Q .none σ') Q σ (argLs xs) := by
  obtain ⟨es, w, r, rfl, hw3, hw, hf, hN, h0, hlen, hL, h⟩ := h
  refine ⟨rfl, ?_⟩
  have hfit : ∀ n b, lookD n es = some b → ∃ kind r, b = blkV kind r ∧ (kind = sLeaf ∨ kind = sBranch) ∧ r.length ≤ 100 ∧ ∀ p ∈ r, pairF kind p = true := fun n b e => by
    obtain ⟨kind, r, e2, a, b, c, _⟩ := fit_inv hw3 (hf _ (lookD_some_mem e))
    exact ⟨kind, r, e2, a, by (first | lia | omega), c⟩
  unfold m_is_level ss
  simp only [List.foldr]
  refine c_assign hM (fun d => d = .lst ([(0 : Int)].map .int)) ⟨by rfl, rfl⟩ ?_
  rintro _ rfl
  refine c_assign hM (fun d => d = .int ((1 : Nat) : Int)) ⟨rfl, rfl⟩ ?_
  rintro _ rfl
  have hin : ∀ n ∈ [(0 : Int)], (lookD n es).isSome = true := fun n hn => by simp at hn; subst hn; exact h0
  have key : ∀ {row m r}, Lev es row m r → (∀ n ∈ row, (lookD n es).isSome = true) → ∃ N : Nat, ∀ N', N ≤ N' → True := fun _ _ => ⟨0, fun _ _ => trivial⟩
  -- how far the rows go down
  have hdep : ∃ n, LevN es n [0] 1 r := LevN.of hL
  refine c_loop hM (fun n σ' ls' => σ' = σ ∧ ∃ row m, LevN es n row m r ∧ (∀ x ∈ row, (lookD x es).isSome = true) ∧ ls' 0 = some (.dct es) ∧ ls' 1 = some (.lst (row.map .int)) ∧ ls' 2 = some (.int ((m : Nat) : Int))) (by obtain ⟨n, hn⟩ := hdep; exact ⟨n, rfl, [0], 1, hn, hin, rfl, rfl, rfl⟩) ?_
  rintro n σ' ls' ⟨rfl, row, m, hl, hin, l0, l1, l2⟩
  have hrow : ∀ n ∈ row, ∃ kind r, lookD n es = some (blkV kind r) := fun n hn => by
    obtain ⟨b, hb⟩ := Option.isSome_iff_exists.mp (hin n hn)
    obtain ⟨kind, r, e, _⟩ := hfit n b hb
    exact ⟨kind, r, by rw [hb, e]⟩
  have hne : ∃ x rest, row = x :: rest ∧ row.length ≤ 10000 := by cases hl <;> exact ⟨_, _, rfl, by assumption⟩
  obtain ⟨x, rest, rfl, hrl⟩ := hne
  obtain ⟨kind, rr, ex⟩ := hrow x (.head _)
  have hbr : ∀ kind r, isBr (blkV kind r) = decide (kind = Str.ofString "branch") := fun _ _ => rfl
  have hlf : ∀ kind r, isLf (blkV kind r) = decide (kind = Str.ofString "leaf") := fun _ _ => rfl
  have hbx : isBr (blk es x) = decide (kind = Str.ofString "branch") := by rw [blk_some ex, hbr]
  refine opt_of l0 ?_
  refine opt_of l1 ?_
  sizeOf_list_dec
  refine opt_of (a := V.int x) (by rw [List.map_cons, show idxOf 0 (V.int x :: rest.map V.int).length = some 0 from idxOf_nat (n := 0) (by simp)]; rfl) ?_
  sizeOf_list_dec
  refine opt_of ex ?_
  unfold blkV
  sizeOf_list_dec
  rw [← hbx]
  cases hl with
  | stop hh hb =>
    rw [hb]
    sizeOf_list_dec
    have hpof : ∀ n ∈ x :: rest, ∃ kind r, lookD n es = some (blkV kind r) ∧ r.length ≤ 100 := fun n hn => by
      obtain ⟨b, hb⟩ := Option.isSome_iff_exists.mp (hin n hn)
      obtain ⟨kind, r, e, _, h1, _⟩ := hfit n b hb
      exact ⟨kind, r, by rw [hb, e], h1⟩
    cases ha : (x :: rest).all (fun n => isLf (blk es n)) with
    | false =>
      rw [ha, Bool.false_and] at h
      refine c_ite_ret hM ?_ h
      refine all_kind hM l0 l1 hrl hrow hlf ?_
      rw [ha]; exact ⟨rfl, rfl⟩
    | true =>
      rw [ha, Bool.true_and] at h
      refine c_guard hM ?_ ?_
      · refine all_kind hM l0 l1 hrl hrow hlf ?_
        rw [ha]; exact ⟨rfl, rfl⟩
      refine c_ret hM ?_
      refine opt_of l2 (opt_of l0 ?_)
      sizeOf_list_dec
      have em : decide (((m : Nat) : Int) = ((es.map fun p => V.int p.1).length : Int)) = decide (m = es.length) := by
        rw [List.length_map]; congr 1; apply propext; (first | lia | omega)
      rw [em]
      cases hq : decide (m = es.length) with
      | false => rw [hq, Bool.false_and] at h; exact h
      | true =>
        rw [hq, Bool.true_and] at h
        refine opt_of l0 (opt_of l1 ?_)
        refine hP _ _ _ ⟨es, x :: rest, rfl, hpof, hrl, ?_⟩
        refine hR _ _ _ ⟨_, _, rfl, .inr rfl, ?_, ?_, h⟩
        · have := rows_len (es := es) (row := x :: rest) fun n hn => by obtain ⟨_, _, e, hl⟩ := hpof n hn; rw [blk_some e]; exact hl
          unfold big; (first | lia | omega)
        · intro p hp
          obtain ⟨n, hn, hp⟩ := List.mem_flatMap.mp hp
          obtain ⟨b, hb⟩ := Option.isSome_iff_exists.mp (hin n hn)
          obtain ⟨kind, r, e, _, _, h1⟩ := hfit n b hb
          rw [blk_some hb, e] at hp
          obtain ⟨k, b, rfl⟩ := pair_key (h1 p hp)
          exact ⟨k, [b], rfl⟩
  | mix hh hb ha =>
    rw [hb]
    sizeOf_list_dec
    refine c_ite_ret hM ?_ h
    refine all_kind hM l0 l1 hrl hrow hbr ?_
    rw [ha]; exact ⟨rfl, rfl⟩
  | down hh hb ha hd =>
    rename_i n'
    rw [hb]
    sizeOf_list_dec
    refine c_guard hM ?_ ?_
    · refine all_kind hM l0 l1 hrl hrow hbr ?_
      rw [ha]; exact ⟨rfl, rfl⟩
    have hbel : ∀ n ∈ x :: rest, ∃ r, lookD n es = some (blkV sBranch r) ∧ r.length ≤ 100 ∧ ∀ p ∈ r, pairF sBranch p = true := fun n hn => by
      obtain ⟨b, hb⟩ := Option.isSome_iff_exists.mp (hin n hn)
      obtain ⟨kind, r, e, _, h1, h2⟩ := hfit n b hb
      have : isBr (blk es n) = true := List.all_eq_true.mp ha n hn
      rw [blk_some hb, e] at this
      have hk : kind = sBranch := of_decide_eq_true this
      subst hk
      exact ⟨r, by rw [hb, e], h1, h2⟩
    refine c_assign hM (fun d => d = .lst ((belowF es (x :: rest)).map .int)) ?_ ?_
    · exact opt_of l0 (opt_of l1 (hB _ _ _ ⟨es, x :: rest, rfl, hbel, hrl, rfl, rfl⟩))
    rintro _ rfl
    refine c_assign hM (fun d => d = .int ((m + (belowF es (x :: rest)).length : Nat) : Int)) ?_ ?_
    · refine opt_of l2 ?_
      sizeOf_list_dec
      exact ⟨rfl, by rw [List.length_map, Int.natCast_add]⟩
    rintro _ rfl
    refine ⟨n', Nat.lt_succ_self _, rfl, _, _, hd, ?_, l0, rfl, rfl⟩
    intro y hy
    obtain ⟨p, hp, rfl⟩ := List.mem_map.mp hy
    obtain ⟨n, hn, hp⟩ := List.mem_flatMap.mp hp
    obtain ⟨b, hb, _⟩ := hN.2 p (prs_of (List.all_eq_true.mp ha n hn) hp)
    rw [hb]; rfl
end

section

open PySem PySem.W PySem.Calls PyProof.Rows
set_option maxRecDepth 100000
set_option linter.unusedSimpArgs false
set_option linter.unusedVariables false
theorem prs_take {es : Dct} {k : Nat} {p : Int × V} (h : es[k]? = some p) : prsOf (es.take (k + 1)) = prsOf (es.take k) ++ (if isBr p.2 then rowV p.2 else []) := by
  simp only [List.take_add_one, h, prs_app]
  skip
  simp [prsOf]
theorem keys_new {nd : Dct} {n : Int} {v : V} (h : n ∉ keysD nd) : keysD (putD n v nd) = keysD nd ++ [n] := by rw [put_new (lookD_none.mpr h)]; simp [keysD]
/-- the pairs seen so far are well named -/
noncomputable def NamedUp (es : Dct) (L : List V) : Prop := (L.map numOf).Nodup ∧ ∀ p ∈ L, ∃ b, lookD (numOf p) es = some b ∧ fstK b = keyOf p
theorem named_pre {es : Dct} {L : List V} {p : V} {R : List V} (h : NamedOk es) (e : prsOf es = L ++ p :: R) : numOf p ∉ L.map numOf ∧ ∃ b, lookD (numOf p) es = some b ∧ fstK b = keyOf p := by
  obtain ⟨h1, h2⟩ := h
  simp only [e, List.map_append] at h1
  refine ⟨fun hm => ?_, h2 p ((e ▸ (List.mem_append_right _ (.head _))))⟩
  exact (List.nodup_append.mp h1).2.2 _ hm _ (.head _) rfl
theorem NamedUp.snoc {es : Dct} {L : List V} {p : V} (h : NamedUp es L) (h1 : numOf p ∉ L.map numOf) (h2 : ∃ b, lookD (numOf p) es = some b ∧ fstK b = keyOf p) : NamedUp es (L ++ [p]) := by
  refine ⟨?_, fun q hq => ?_⟩
  · simp only [List.map_append]
    exact List.nodup_append.mpr ⟨h.1, by simp, fun a ha b hb e => by replace hb := List.mem_singleton.mp hb; subst hb; exact h1 (e ▸ ha)⟩
  · rcases List.mem_append.mp hq with hq | hq
    · exact h.2 q hq
    · replace hq := List.mem_singleton.mp hq; subst hq; exact h2
theorem snd_ok (Φ : Spec) (hM : SpecMono Φ) (Gc : Nat → V) (hF : ∀ xs Q σ, fitS xs Q σ → Φ 7 xs Q σ) (hL : ∀ xs Q σ, levS xs Q σ → Φ 10 xs Q σ) {xs : List V} {Q : Post} {σ : View} (h : sndS xs Q σ) : xs.length = 2 ∧ swps Φ Gc m_sound (fun σ' _ => Q .none σ') Q σ (argLs xs) := by
  obtain ⟨es, w, r, rfl, ⟨hnd, hok, hlen⟩, hw3, hw, hS, h⟩ := h
  refine ⟨rfl, ?_⟩
  unfold m_sound ss
  simp only [List.foldr]
  have hgood : (lookD 0 es).isSome = true → (∀ p ∈ es, fitF p.1 p.2 w = true) → (¬ NamedOk es → r = false) ∧ (NamedOk es → Lev es [0] 1 r) := fun h0 hf => by
    cases hS with
    | nozero hz => rw [hz] at h0; cases h0
    | unfit hp hq => rw [hf _ hp] at hq; cases hq
    | unnamed _ hn => exact ⟨fun _ => rfl, fun h => absurd h hn⟩
    | lev _ _ hn hl => exact ⟨fun h => absurd hn h, fun _ => hl⟩
  have hbad : ((lookD 0 es).isSome = false ∨ ∃ p ∈ es, fitF p.1 p.2 w = false) → r = false := fun hb => by
    cases hS with
    | nozero => rfl
    | unfit => rfl
    | unnamed => rfl
    | lev h0 hf _ _ =>
      rcases hb with hb | ⟨p, hp, hb⟩
      · rw [h0] at hb; cases hb
      · rw [hf p hp] at hb; cases hb
  have hallv : ∀ σ, pureOp .all σ [.lst (es.map fun p => V.bool (fitF p.1 (blk es p.1) w))] = some (.bool (es.all fun p => fitF p.1 (blk es p.1) w)) := fun σ => by
    show Option.map _ (bools? _) = _
    rw [bools_map (fun p : Int × V => fitF p.1 (blk es p.1) w) es]
    show some (V.bool _) = _
    rw [List.all_map]; rfl
  have hcomp : ∀ {Q' : Post}, Q' (.lst (es.map fun p => V.bool (fitF p.1 (blk es p.1) w))) σ → ewp Φ Gc (argLs [.dct es, .int w]) (.comp false (.call 7 (.cons (.var 2) (.cons (.op .item (.cons (.var 0) (.cons (.var 2) .nil))) (.cons (.var 1) .nil)))) (.one 2) (.seq (.var 0)) .nil) Q' σ := by
    intro Q' hQ
    refine w_comp_gm hM (xs := es.map fun p => V.int p.1) (fun v => match v with | .int n => .bool (fitF n (blk es n) w) | _ => .none) (cwp_e hM _ ?_) (by rw [List.length_map]; unfold big; (first | lia | omega)) (fun v hv => cwp_e hM _ ?_) (by rw [List.map_map]; exact hQ)
    · exact ⟨rfl, rfl, rfl, rfl⟩
    · obtain ⟨p, hp, rfl⟩ := List.mem_map.mp hv
      sizeOf_list_dec
      refine opt_of (mem_lookD hnd (v := p.2) hp) ?_
      refine hF _ _ _ ⟨p.1, p.2, w, rfl, hok p hp, rfl, ?_⟩
      show _ = V.bool (fitF p.1 (blk es p.1) w)
      rw [blk_some (mem_lookD hnd (v := p.2) hp)]
  cases h0 : (lookD 0 es).isSome with
  | false =>
    rw [hbad (.inl h0)] at h
    refine c_ite_ret hM ?_ h
    sizeOf_list_dec
    rw [h0]
    exact ⟨rfl, rfl⟩
  | true =>
    cases ha : es.all (fun p => fitF p.1 (blk es p.1) w) with
    | false =>
      have : ∃ p ∈ es, fitF p.1 p.2 w = false := by
        obtain ⟨p, hp, hq⟩ : ∃ p ∈ es, fitF p.1 (blk es p.1) w = false := by simpa using ha
        exact ⟨p, hp, by rw [blk_some (mem_lookD hnd (v := p.2) hp)] at hq; exact hq⟩
      rw [hbad (.inr this)] at h
      refine c_ite_ret hM ?_ h
      sizeOf_list_dec
      rw [h0]
      refine hcomp ?_
      refine opt_of (a := V.bool (es.all fun p => fitF p.1 (blk es p.1) w)) (hallv σ) ?_
      rw [ha]; exact ⟨rfl, rfl⟩
    | true =>
      have hfit : ∀ p ∈ es, fitF p.1 p.2 w = true := fun p hp => by
        have := List.all_eq_true.mp ha p hp
        rw [blk_some (mem_lookD hnd (v := p.2) hp)] at this; exact this
      obtain ⟨g1, g2⟩ := hgood h0 hfit
      refine c_guard hM ?_ ?_
      · sizeOf_list_dec
        rw [h0]
        refine hcomp ?_
        refine opt_of (a := V.bool (es.all fun p => fitF p.1 (blk es p.1) w)) (hallv σ) ?_
        rw [ha]; exact ⟨rfl, rfl⟩
      have hinv : ∀ n b, lookD n es = some b → ∃ kind r, b = blkV kind r ∧ (kind = sLeaf ∨ kind = sBranch) ∧ r.length ≤ 100 ∧ (∀ p ∈ r, pairF kind p = true) ∧ (n ≠ 0 → 2 ≤ r.length) := fun n b e => by
        obtain ⟨kind, r, e2, a, b, c, _, _, g⟩ := fit_inv hw3 (hfit _ (lookD_some_mem e))
        exact ⟨kind, r, e2, a, by (first | lia | omega), c, fun h => g (.inl h)⟩
      refine cut_dict fun a ha => ?_
      have hret : ∀ {ls : Ls} {nd : Dct} {R' : MSs}, ls 3 = some (.ref a) → ¬ NamedOk es → swps Φ Gc (.cons (.freeze 3) (.cons (.ret (.lit (.bool false))) R')) (fun _ _ => True) Q (σ.upd a (.dict false nd)) ls → True := fun _ _ _ => trivial
      refine c_for_d hM (ds := es) (fun k σ' ls' => ∃ nd, σ' = σ.upd a (.dict false nd) ∧ ls' 0 = some (.dct es) ∧ ls' 1 = some (.int w) ∧ ls' 3 = some (.ref a) ∧ keysD nd = (prsOf (es.take k)).map numOf ∧ NamedUp es (prsOf (es.take k)) ∧ nd.length ≤ 100 * k) ⟨rfl, rfl⟩ ⟨[], rfl, rfl, rfl, rfl, rfl, ⟨List.nodup_nil, fun _ h => nomatch h⟩, Nat.le_refl _⟩ ?_ ?_
      · rintro k ⟨n, b⟩ hp σ' ls' ⟨nd, rfl, l0, l1, l3, hk, hN, hnl⟩
        have hmem : (n, b) ∈ es := List.mem_iff_getElem?.mpr ⟨k, hp⟩
        have hkl : k < es.length := (List.getElem?_eq_some_iff.mp hp).1
        have hlk := mem_lookD hnd hmem
        obtain ⟨kind, rr, rfl, hkd, hrl, hpr, _⟩ := hinv n b hlk
        have ht := prs_take hp
        by_cases hkb : kind = sBranch
        · subst hkb
          rw [if_pos br_blkV.1] at ht
          refine ctwp_t hM ?_
          refine opt_of l0 ?_
          sizeOf_list_dec
          refine opt_of hlk ?_
          unfold blkV
          sizeOf_list_dec
          rw [if_pos (show decide (sBranch = Str.ofString "branch") = true from decide_eq_true rfl)]
          refine c_for_l hM (xs := rr) (fun j σ' ls' => ∃ nd, σ' = σ.upd a (.dict false nd) ∧ ls' 0 = some (.dct es) ∧ ls' 1 = some (.int w) ∧ ls' 3 = some (.ref a) ∧ keysD nd = (prsOf (es.take k) ++ rr.take j).map numOf ∧ NamedUp es (prsOf (es.take k) ++ rr.take j) ∧ nd.length ≤ 100 * k + j) ?_ ⟨nd, rfl, l0, l1, l3, by rw [List.take_zero, List.append_nil]; exact hk, by rw [List.take_zero, List.append_nil]; exact hN, hnl⟩ ?_ ?_
          · refine opt_of l0 ?_
            sizeOf_list_dec
            refine opt_of hlk ?_
            unfold blkV
            sizeOf_list_dec
            exact ⟨rfl, .inr rfl⟩
          · rintro j p hj σ' ls' ⟨nd, rfl, l0, l1, l3, hk, hN, hnl⟩
            obtain ⟨kk, nn, rfl, hn1⟩ := num_pair (hpr p (List.mem_iff_getElem?.mpr ⟨j, hj⟩))
            have hjl : j < rr.length := (List.getElem?_eq_some_iff.mp hj).1
            have hsplit : ∃ R, prsOf es = (prsOf (es.take k) ++ rr.take j) ++ .tup [.int kk, .int nn] :: R := by
              refine ⟨rr.drop (j + 1) ++ prsOf (es.drop (k + 1)), ?_⟩
              have e1 : prsOf es = prsOf (es.take (k + 1)) ++ prsOf (es.drop (k + 1)) := by rw [← prs_app, List.take_append_drop]
              have e2 : rr = rr.take j ++ .tup [.int kk, .int nn] :: rr.drop (j + 1) := by
                conv => lhs; rw [← List.take_append_drop j rr, List.drop_eq_getElem_cons hjl]
                rw [(List.getElem?_eq_some_iff.mp hj).2]
              rw [e1, ht]
              show (_ ++ rr) ++ _ = _
              conv => lhs; rw [e2]
              simp
            obtain ⟨R, hsp⟩ := hsplit
            have hr2 : ∀ {ls : Ls}, ls 3 = some (.ref a) → ¬ NamedOk es → swps Φ Gc (.cons (.freeze 3) (.cons (.ret (.lit (.bool false))) .nil)) (fun σ₃ ls₃ => False) Q (σ.upd a (.dict false nd)) ls := fun l3 hn => by
              refine cut_freezeD l3 (upd_self _ _ _) ?_
              rw [del_upd ha]
              rw [g1 hn] at h
              exact c_ret hM h
            have hin1 : inV (σ.upd a (.dict false nd)) (.int nn) (.ref a) = some (lookD nn nd).isSome := by
              show (dicOf (σ.upd a (.dict false nd)) (.ref a)).map _ = _
              simp only [dicOf, upd_self]; rfl
            refine swps_cut hM (I := fun σ₃ ls₃ => σ₃ = σ.upd a (.dict false nd) ∧ ls₃ = ls'.set 4 (.tup [.int kk, .int nn]) ∧ nn ∉ keysD nd ∧ (lookD nn es).isSome = true) ?_ ?_
            · refine ctwp_t hM ?_
              sizeOf_list_dec
              refine opt_of l3 (opt_map hin1 ?_)
              sizeOf_list_dec
              cases q1 : (lookD nn nd).isSome with
              | true =>
                rw [if_pos rfl]
                refine swps_mono hM _ (hr2 l3 fun hn => ?_) (fun _ _ h => h.elim) fun _ _ h => h
                have := (named_pre hn hsp).1
                rw [← hk] at this
                have hq : nn ∈ keysD nd := by
                  obtain ⟨v, hv⟩ := Option.isSome_iff_exists.mp q1
                  exact List.mem_map.mpr ⟨_, lookD_some_mem hv, rfl⟩
                exact this hq
              | false =>
                sizeOf_list_dec
                refine opt_of l0 ?_
                sizeOf_list_dec
                cases q2 : (lookD nn es).isSome with
                | false =>
                  rw [if_pos (by rfl)]
                  refine swps_mono hM _ (hr2 l3 fun hn => ?_) (fun _ _ h => h.elim) fun _ _ h => h
                  obtain ⟨b, hb, _⟩ := (named_pre hn hsp).2
                  have hb : lookD nn es = some b := hb
                  rw [hb] at q2; cases q2
                | true =>
                  rw [if_neg (by decide)]
                  refine ⟨rfl, rfl, fun hm => ?_, rfl⟩
                  obtain ⟨⟨k', v'⟩, hv, e⟩ := List.mem_map.mp hm
                  have := lookD_none.mp (Option.not_isSome_iff_eq_none.mp (by rw [q1]; decide)) hm
                  exact this
            rintro σ₃ ls₃ ⟨rfl, rfl, hnn, hse⟩
            obtain ⟨b2, hb2⟩ := Option.isSome_iff_exists.mp hse
            obtain ⟨kind2, r2, rfl, _, _, hpr2, h22⟩ := hinv nn b2 hb2
            have h22 := h22 (by (first | lia | omega))
            obtain ⟨q0, r3, rfl⟩ : ∃ q0 r3, r2 = q0 :: r3 := by cases r2 with | nil => simp at h22 | cons x y => exact ⟨x, y, rfl⟩
            obtain ⟨k0, x0, rfl⟩ := pair_key (hpr2 q0 (.head _))
            refine swps_cut hM (I := fun σ₃ ls₃ => σ₃ = σ.upd a (.dict false nd) ∧ ls₃ = ls'.set 4 (.tup [.int kk, .int nn]) ∧ k0 = kk) ?_ ?_
            · refine ctwp_t hM ?_
              refine opt_of l0 ?_
              sizeOf_list_dec
              refine opt_of hb2 ?_
              unfold blkV
              sizeOf_list_dec
              refine opt_of (r_it_t0 (σ := σ)) ?_
              sizeOf_list_dec
              by_cases q : k0 = kk
              · rw [decide_eq_true q, if_neg (by decide)]
                exact ⟨rfl, rfl, q⟩
              · rw [decide_eq_false q, if_pos (by rfl)]
                refine swps_mono hM _ (hr2 l3 fun hn => ?_) (fun _ _ h => h.elim) fun _ _ h => h
                obtain ⟨b, hb, hb3⟩ := (named_pre hn hsp).2
                have hb : lookD nn es = some b := hb
                rw [hb2] at hb; cases hb
                exact q hb3
            rintro σ₃ ls₃ ⟨rfl, rfl, rfl⟩
            refine c_set hM (r := .nil) ?_
            sizeOf_list_dec
            refine opt_of l3 ?_
            sizeOf_list_dec
            have hnn' : numOf (.tup [.int k0, .int nn]) ∉ (prsOf (es.take k) ++ rr.take j).map numOf := (hk ▸ hnn)
            have e3 : rr.take (j + 1) = rr.take j ++ [.tup [.int k0, .int nn]] := by rw [List.take_add_one, hj]; rfl
            refine ⟨a, nn, nd, rfl, rfl, upd_self _ _ _, by unfold big; (first | lia | omega), _, by rw [upd_upd], l0, l1, l3, ?_, ?_, Nat.le_trans len_put_le (by (first | lia | omega))⟩
            · simp only [keys_new hnn, e3, hk]; simp [numOf]
            · rw [e3, ← List.append_assoc]
              exact hN.snoc hnn' ⟨_, hb2, rfl⟩
          · rintro σ' ls' ⟨nd, rfl, l0, l1, l3, hk, hN, hnl⟩
            rw [List.take_length] at hk hN
            have e4 : prsOf (es.take (k + 1)) = prsOf (es.take k) ++ rr := ht
            exact ⟨nd, rfl, l0, l1, l3, by rw [e4]; exact hk, by rw [e4]; exact hN, by (first | lia | omega)⟩
        · have hnb : isBr (blkV kind rr) = false := decide_eq_false hkb
          rw [if_neg (by rw [hnb]; decide), List.append_nil] at ht
          refine c_guard hM ?_ ⟨nd, rfl, l0, l1, l3, by rw [ht]; exact hk, by rw [ht]; exact hN, by (first | lia | omega)⟩
          refine opt_of l0 ?_
          sizeOf_list_dec
          refine opt_of hlk ?_
          skip
          sizeOf_list_dec
          exact ⟨rfl, decide_eq_false hkb⟩
      rintro σ' ls' ⟨nd, rfl, l0, l1, l3, hk, hN, hnl⟩
      rw [List.take_length] at hN
      refine cut_freezeD l3 (upd_self _ _ _) ?_
      refine (Eq.symm (del_upd ha)) ▸ ?_
      refine c_ret hM ?_
      sizeOf_list_dec
      refine opt_of l0 ?_
      exact hL _ _ _ ⟨es, w, r, rfl, hw3, hw, hfit, hN, h0, hlen, g2 hN, h⟩
end

section

open PySem PySem.W PySem.Calls PyProof.Rows
set_option maxRecDepth 100000
set_option linter.unusedSimpArgs false
set_option linter.unusedVariables false
theorem lvl_arith {n w c : Int} (hw : 3 ≤ w) (hn : w < n) : 0 < max 1 (n / halfI w) - -(-n / w) + 1 ∧ 2 ≤ -(-n / w) + c % (max 1 (n / halfI w) - -(-n / w) + 1) ∧
    halfI w * (-(-n / w) + c % (max 1 (n / halfI w) - -(-n / w) + 1)) ≤ n ∧ n ≤ w * (-(-n / w) + c % (max 1 (n / halfI w) - -(-n / w) + 1)) := by
  have hh1 : 2 * halfI w ≤ w + 1 := by unfold halfI; (first | lia | omega)
  have hh2 : w ≤ 2 * halfI w := by unfold halfI; (first | lia | omega)
  generalize halfI w = h at *
  have a1 := Int.mul_ediv_self_le (x := -n) (k := w) (by (first | lia | omega))
  have a2 := Int.lt_mul_ediv_self_add (x := -n) (k := w) (by (first | lia | omega))
  have b1 := Int.mul_ediv_self_le (x := n) (k := h) (by (first | lia | omega))
  have b2 := Int.lt_mul_ediv_self_add (x := n) (k := h) (by (first | lia | omega))
  generalize hL : -(-n / w) = L at *
  have hq : -n / w = -L := by (first | lia | omega)
  rw [hq, Int.mul_neg] at a1 a2
  generalize hM0 : n / h = M0 at *
  have hL2 : 2 ≤ L := by
    apply Classical.byContradiction; intro hc
    have := Int.mul_le_mul_of_nonneg_left (show L ≤ 1 by (first | lia | omega)) (show 0 ≤ w by (first | lia | omega))
    (first | lia | omega)
  have hLM : L ≤ M0 := by
    apply Classical.byContradiction; intro hc
    have c1 := Int.mul_le_mul_of_nonneg_left (show M0 ≤ L - 1 by (first | lia | omega)) (show 0 ≤ h by (first | lia | omega))
    have c2 := Int.mul_le_mul_of_nonneg_right (show 2 * h - 1 ≤ w by (first | lia | omega)) (show 0 ≤ L - 1 by (first | lia | omega))
    have c3 := Int.mul_nonneg (show 0 ≤ h - 1 by (first | lia | omega)) (show 0 ≤ L - 2 by (first | lia | omega))
    have e1 : h * (L - 1) = h * L - h := by rw [Int.mul_sub, Int.mul_one]
    have e2 : (2 * h - 1) * (L - 1) = 2 * (h * L) - 2 * h - L + 1 := by rw [Int.sub_mul, Int.mul_sub, Int.mul_assoc]; (first | lia | omega)
    have e3 : (h - 1) * (L - 2) = h * L - h * 2 - L + 2 := by rw [Int.sub_mul, Int.mul_sub]; (first | lia | omega)
    have e4 : w * (L - 1) = w * L - w := by rw [Int.mul_sub, Int.mul_one]
    (first | lia | omega)
  have hmax : max 1 M0 = M0 := by (first | lia | omega)
  refine (Eq.symm hmax) ▸ ?_
  have m1 := Int.emod_nonneg c (show M0 - L + 1 ≠ 0 by (first | lia | omega))
  have m2 := Int.emod_lt_of_pos c (show 0 < M0 - L + 1 by (first | lia | omega))
  generalize c % (M0 - L + 1) = e at *
  refine ⟨by (first | lia | omega), by (first | lia | omega), ?_, ?_⟩
  · have := Int.mul_le_mul_of_nonneg_left (show L + e ≤ M0 by (first | lia | omega)) (show 0 ≤ h by (first | lia | omega)); (first | lia | omega)
  · have := Int.mul_le_mul_of_nonneg_left (show L ≤ L + e by (first | lia | omega)) (show 0 ≤ w by (first | lia | omega)); (first | lia | omega)
theorem size_arith {n w m k : Int} (hk0 : 0 ≤ k) (hw : 3 ≤ w) (hm : 2 ≤ m) (h1 : halfI w * m ≤ n) (h2 : n ≤ w * m) : halfI w ≤ n / m + (if decide (k < n % m) then 1 else 0) ∧ n / m + (if decide (k < n % m) then 1 else 0) ≤ w := by
  have hq := Int.mul_ediv_add_emod n m
  have r1 := Int.emod_nonneg n (show m ≠ 0 by lia)
  have r2 := Int.emod_lt_of_pos n (show 0 < m by solve_by_elim (maxDepth := 3) [Int.le_of_lt, Int.le_trans, Int.lt_of_lt_of_le, Int.lt_of_le_of_lt, i1, i2, i5, i6])
  have hd : halfI w ≤ n / m := Int.le_ediv_of_mul_le (by solve_by_elim (maxDepth := 3) [Int.le_of_lt, Int.le_trans, Int.lt_of_lt_of_le, Int.lt_of_le_of_lt, i1, i2, i5, i6]) h1
  generalize n / m = q at *
  generalize n % m = r at *
  refine ⟨by split <;> lia, ?_⟩
  rw [Int.mul_comm] at h2
  by_cases hr : r = 0
  · have : q ≤ w := by
      apply Classical.byContradiction; intro hc
      have := Int.mul_le_mul_of_nonneg_left (show w + 1 ≤ q by lia) (show 0 ≤ m by lia)
      skip; lia
    split
    · rename_i hk; have := of_decide_eq_true hk; lia
    · lia
  · have : q < w := by
      apply Classical.byContradiction; intro hc
      have := Int.mul_le_mul_of_nonneg_left (show w ≤ q by lia) (show 0 ≤ m by lia)
      lia
    split <;> (first | assumption | lia)
noncomputable def atI (q r : Int) (k : Nat) : Int := (k : Int) * q + min (k : Int) r
theorem at_succ {q r : Int} {k : Nat} : atI q r (k + 1) = atI q r k + (q + if decide ((k : Int) < r) then 1 else 0) := by
  unfold atI
  simp only [show ((k + 1 : Nat) : Int) = (k : Int) + 1 by rfl, Int.add_mul, Int.one_mul]
  by_cases h : (k : Int) < r
  · skip; skip; lia
  · skip; skip; lia
theorem sliceL_mid {α : Type} {xs : List α} {a b : Int} (h0 : 0 ≤ a) (h1 : a ≤ b) (h2 : b ≤ xs.length) : sliceL xs a (some b) = (xs.take b.toNat).drop a.toNat ∧ (sliceL xs a (some b)).length = (b - a).toNat ∧ xs.take a.toNat ++ sliceL xs a (some b) = xs.take b.toNat := by
  obtain ⟨n, rfl⟩ := Int.eq_ofNat_of_zero_le (Int.le_trans h0 h1)
  obtain ⟨m, rfl⟩ := Int.eq_ofNat_of_zero_le h0
  have hm : m ≤ n := Int.ofNat_le.mp h1
  have hn : n ≤ xs.length := Int.ofNat_le.mp h2
  have c : ∀ k : Nat, k ≤ xs.length → clipI xs.length (k : Int) = k := fun k hk => (if_neg (Int.not_lt.mpr (Int.natCast_nonneg k))).trans (Nat.min_eq_left hk)
  have e : sliceL xs (m : Int) (some (n : Int)) = (xs.take n).drop m := by
    show List.drop (clipI xs.length m) (List.take (clipI xs.length n) xs) = _
    rw [c n hn, c m (Nat.le_trans hm hn)]
  refine ⟨e, ?_, ?_⟩
  · rw [e, List.length_drop, List.length_take, Nat.min_eq_left hn]; exact (Int.toNat_sub n m).symm
  · rw [e]
    show List.take m xs ++ _ = List.take n xs
    have : xs.take m = (xs.take n).take m := by rw [List.take_take, Nat.min_eq_left hm]
    rw [this, List.take_append_drop]
noncomputable def lvlS (xs : List V) (Q : Post) (σ : View) : Prop := ∃ ps w c, xs = [.lst ps, .int w, .int c] ∧ 3 ≤ w ∧ w ≤ 64 ∧ w < ps.length ∧ ps.length ≤ 1000 ∧ ∀ rs : List (List V), rs.flatten = ps → (∀ r ∈ rs, halfI w ≤ r.length ∧ (r.length : Int) ≤ w) → 2 ≤ rs.length → Q (.lst (rs.map .tup)) σ
theorem level_ok (Φ : Spec) (hM : SpecMono Φ) (Gc : Nat → V) {xs : List V} {Q : Post} {σ : View} (h : lvlS xs Q σ) : xs.length = 3 ∧ swps Φ Gc m_law_level (fun σ' _ => Q .none σ') Q σ (argLs xs) := by
  obtain ⟨ps, w, c, rfl, hw3, hw, hn, hl, h⟩ := h
  refine ⟨rfl, ?_⟩
  unfold m_law_level ss
  simp only [List.foldr]
  obtain ⟨ar1, ar2, ar3, ar4⟩ := lvl_arith (n := ps.length) (w := w) (c := c) hw3 hn
  have hh : (2 : Int) ≤ halfI w := by unfold halfI; (first | lia | omega)
  have hh2 : halfI w ≤ 64 := by unfold halfI; (first | lia | omega)
  refine c_assign hM (fun d => d = .int (-(-(ps.length : Int) / w))) ?_ ?_
  · sizeOf_list_dec
    refine opt_if ⟨by (first | lia | omega), by (first | lia | omega)⟩ ?_
    exact ⟨rfl, rfl⟩
  rintro _ rfl
  refine c_assign hM (fun d => d = .int (max 1 ((ps.length : Int) / halfI w))) ?_ ?_
  · sizeOf_list_dec
    refine opt_if (show 0 < halfI w ∧ halfI w < 2 ^ 29 from ⟨by (first | lia | omega), by (first | lia | omega)⟩) ?_
    exact ⟨rfl, rfl⟩
  rintro _ rfl
  refine c_assign hM (fun d => d = .int (-(-(ps.length : Int) / w) + c % (max 1 ((ps.length : Int) / halfI w) - -(-(ps.length : Int) / w) + 1))) ?_ ?_
  · sizeOf_list_dec
    refine opt_if ar1 ?_
    exact ⟨rfl, rfl⟩
  rintro _ rfl
  generalize -(-(ps.length : Int) / w) + c % (max 1 ((ps.length : Int) / halfI w) - -(-(ps.length : Int) / w) + 1) = m at ar2 ar3 ar4 ⊢
  have hm1 : m ≤ 1000 := by have := Int.mul_le_mul_of_nonneg_right hh (show 0 ≤ m by (first | lia | omega)); (first | lia | omega)
  have hq := Int.mul_ediv_add_emod (ps.length : Int) m
  have hr1 := Int.emod_nonneg (ps.length : Int) (show m ≠ 0 by (first | lia | omega))
  have hr2 := Int.emod_lt_of_pos (ps.length : Int) (show 0 < m by (first | lia | omega))
  have hq0 : 0 ≤ (ps.length : Int) / m := Int.ediv_nonneg (by (first | lia | omega)) (by (first | lia | omega))
  have hsz : ∀ k : Nat, halfI w ≤ (ps.length : Int) / m + (if decide ((k : Int) < (ps.length : Int) % m) then 1 else 0) ∧ (ps.length : Int) / m + (if decide ((k : Int) < (ps.length : Int) % m) then 1 else 0) ≤ w := fun k => size_arith (by (first | lia | omega)) hw3 ar2 ar3 ar4
  have hat : ∀ k : Nat, (k : Int) ≤ m → 0 ≤ atI ((ps.length : Int) / m) ((ps.length : Int) % m) k ∧ atI ((ps.length : Int) / m) ((ps.length : Int) % m) k ≤ ps.length := fun k hk => by
    have h1 := Int.mul_le_mul_of_nonneg_right hk hq0
    have h2 := Int.mul_nonneg (Int.natCast_nonneg k) hq0
    unfold atI; (first | lia | omega)
  have hend : atI ((ps.length : Int) / m) ((ps.length : Int) % m) m.toNat = ps.length := by
    unfold atI; rw [show ((m.toNat : Nat) : Int) = m by (first | lia | omega)]; (first | lia | omega)
  generalize hqd : (ps.length : Int) / m = q at *
  generalize hrd : (ps.length : Int) % m = r at *
  refine c_any hM ⟨by decide, fun a ha => ?_⟩
  refine c_assign hM (fun d => d = .int (atI q r 0)) ⟨rfl, by show V.int 0 = V.int (((0 : Nat) : Int) * q + min ((0 : Nat) : Int) r); congr 1; simp; (first | lia | omega)⟩ ?_
  rintro _ rfl
  refine c_for_r hM (n := m) (fun k σ' ls' => ∃ rs : List (List V), σ' = σ.upd a (.list false (rs.map .tup)) ∧ rs.length = k ∧ rs.flatten = ps.take (atI q r k).toNat ∧ (∀ x ∈ rs, halfI w ≤ x.length ∧ (x.length : Int) ≤ w) ∧ ls' 0 = some (.lst ps) ∧ ls' 5 = some (.int m) ∧ ls' 6 = some (.ref a) ∧ ls' 7 = some (.int (atI q r k))) ⟨rfl, rfl⟩ (by (first | lia | omega)) (by (first | lia | omega))
    ⟨[], rfl, rfl, by rw [show (atI q r 0).toNat = 0 by unfold atI; simp; (first | lia | omega)]; rfl, (fun _ h => ((List.not_mem_nil h).elim)), rfl, rfl, rfl, rfl⟩ ?_ ?_
  · rintro k hk σ' ls' ⟨rs, rfl, hlen, hfl, hall, l0, l5, l6, l7⟩
    have hs := hsz k
    have hat0 := hat k (by (first | lia | omega))
    have hat1 := hat (k + 1) (by (first | lia | omega))
    have has := at_succ (q := q) (r := r) (k := k)
    generalize hS : q + (if decide ((k : Int) < r) then 1 else 0) = S at hs has
    refine c_assign hM (fun d => d = .int S) ?_ ?_
    · refine opt_of l0 ?_
      sizeOf_list_dec
      refine opt_of l5 ?_
      sizeOf_list_dec
      refine opt_if ⟨by (first | lia | omega), by (first | lia | omega)⟩ ?_
      sizeOf_list_dec
      refine opt_of l0 ?_
      sizeOf_list_dec
      refine opt_of l5 ?_
      sizeOf_list_dec
      refine opt_if (show 0 < m by (first | lia | omega)) ?_
      sizeOf_list_dec
      refine ⟨rfl, ?_⟩
      rw [hqd, hrd, hS]
    rintro _ rfl
    have hq1 := sliceL_mid (xs := ps) (a := atI q r k) (b := atI q r k + S) hat0.1 (by (first | lia | omega)) (by (first | lia | omega))
    refine c_expr hM (opt_of l6 ⟨⟨a, false, _, rfl, upd_self _ _ _⟩, ?_⟩)
    refine opt_of l0 (opt_of l7 (opt_of l7 ?_))
    sizeOf_list_dec
    refine ⟨_, upd_self _ _ _, by rw [List.length_map, hlen]; unfold big; (first | lia | omega), ?_⟩
    refine c_any hM (r := .nil) (opt_of l7 ?_)
    sizeOf_list_dec
    refine ⟨rs ++ [sliceL ps (atI q r k) (some (atI q r k + S))], by rw [upd_upd, List.map_append]; rfl, by rw [List.length_append, hlen]; rfl, ?_, ?_, l0, l5, l6, ?_⟩
    · rw [List.flatten_append, hfl, has]
      show _ ++ (_ ++ []) = _
      rw [List.append_nil, hq1.2.2]; rfl
    · intro x hx
      rcases List.mem_append.mp hx with hx | hx
      · exact hall x hx
      · replace hx := List.mem_singleton.mp hx; subst hx; refine hq1.2.1 ▸ ?_; (first | lia | omega)
    · show some (V.int (atI q r k + S)) = _
      rw [has]
  · rintro σ' ls' ⟨rs, rfl, hlen, hfl, hall, l0, l5, l6, l7⟩
    refine cut_freezeL l6 (upd_self _ _ _) ?_
    refine (Eq.symm (del_upd ha)) ▸ ?_
    refine c_ret hM ?_
    refine h rs ?_ hall (by (first | lia | omega))
    rw [hfl, hend]; simp
noncomputable def widS (xs : List V) (Q : Post) (σ : View) : Prop := ∃ c, xs = [.int c] ∧ ∀ w, 3 ≤ w → w ≤ 64 → Q (.int w) σ
theorem width_ok (Φ : Spec) (hM : SpecMono Φ) (Gc : Nat → V) {xs : List V} {Q : Post} {σ : View} (h : widS xs Q σ) : xs.length = 1 ∧ swps Φ Gc m_law_width_by (fun σ' _ => Q .none σ') Q σ (argLs xs) := by
  obtain ⟨c, rfl, h⟩ := h
  refine ⟨rfl, ?_⟩
  skip
  skip
  by_cases q : c % 8 = 7
  · refine c_ite_ret hM ?_ ?_
    · sizeOf_list_dec
      exact ⟨rfl, decide_eq_true q⟩
    · sizeOf_list_dec
      exact h _ (by (first | lia | omega)) (by (first | lia | omega))
  · refine c_guard hM ?_ ?_
    · sizeOf_list_dec
      exact ⟨rfl, decide_eq_false q⟩
    refine c_ret hM ?_
    sizeOf_list_dec
    exact h _ (by (first | lia | omega)) (by (first | lia | omega))
theorem add_snoc {kind : Str} {d : Int} {r : List V} : ∀ {rs : List (List V)} {n : Int}, addR kind d n (rs ++ [r]) = addR kind d n rs ++ [(n + d * rs.length, blkV kind r)]
  | [], n => by simp [addR]
  | x :: rs, n => by
    simp only [List.cons_append, addR, add_snoc, List.length_cons]
    rw [show n + d + d * (rs.length : Int) = n + d * ((rs.length + 1 : Nat) : Int) by rw [Int.natCast_add, Int.mul_add]; (first | lia | omega)]
theorem abv_snoc {d : Int} {r : List V} : ∀ {rs : List (List V)} {n : Int}, abvR d n (rs ++ [r]) = abvR d n rs ++ [.tup [.int (keyOf (r.getD 0 .none)), .int (n + d * rs.length)]]
  | [], n => by simp [abvR]
  | x :: rs, n => by
    simp only [List.cons_append, abvR, abv_snoc, List.length_cons]
    rw [show n + d + d * (rs.length : Int) = n + d * ((rs.length + 1 : Nat) : Int) by rw [Int.natCast_add, Int.mul_add]; (first | lia | omega)]
noncomputable def tbyS (xs : List V) (Q : Post) (σ : View) : Prop := ∃ ps w c, xs = [.lst ps, .int w, .int c] ∧ 0 ≤ c ∧ 3 ≤ w ∧ w ≤ 64 ∧ ps.length ≤ 201 ∧ (∀ p ∈ ps, pairF sLeaf p = true ∧ Dat 1 p) ∧ risesF ps = true ∧
  ∀ es, Tree es ps w → (∃ asc, keysD es = asc ++ [0] ∧ asc.Pairwise (· < ·) ∧ ∀ k ∈ asc, 0 < k) → es.length ≤ 500 → Q (.dct es) σ
theorem tree_ok (Φ : Spec) (hM : SpecMono Φ) (Gc : Nat → V) (hV : ∀ xs Q σ, lvlS xs Q σ → Φ 14 xs Q σ) {xs : List V} {Q : Post} {σ : View} (h : tbyS xs Q σ) : xs.length = 3 ∧ swps Φ Gc m_law_tree_by (fun σ' _ => Q .none σ') Q σ (argLs xs) := by
  obtain ⟨ps, w, c, rfl, hc, hw3, hw, hpl, hgood, hris, h⟩ := h
  refine ⟨rfl, ?_⟩
  unfold m_law_tree_by ss
  simp only [List.foldr]
  refine cut_dict fun a ha => ?_
  refine c_assign hM (fun d => d = .str sLeaf) ⟨rfl, rfl⟩ ?_
  rintro _ rfl
  refine c_assign hM (fun d => d = .int (1 + c % 3)) ?_ ?_
  · sizeOf_list_dec
    exact ⟨rfl, rfl⟩
  rintro _ rfl
  have hB0 : Bld [] ps ps sLeaf (1 + c % 3) w := ⟨List.nodup_nil, (fun _ h => nomatch h), (fun _ h => nomatch h), .inl ⟨rfl, rfl, rfl⟩, hgood, hris, (fun _ h => nomatch h), by simp, by (first | lia | omega), .nil⟩
  refine c_loop hM (fun n σ' ls' => ∃ ds pairs kind num, σ' = σ.upd a (.dict false ds) ∧ Bld ds pairs ps kind num w ∧ n = pairs.length ∧ ls' 0 = some (.lst pairs) ∧ ls' 1 = some (.int w) ∧ ls' 2 = some (.int c) ∧ ls' 3 = some (.ref a) ∧ ls' 4 = some (.str kind) ∧ ls' 5 = some (.int num)) ⟨ps.length, [], ps, sLeaf, _, rfl, hB0, rfl, rfl, rfl, rfl, rfl, rfl, rfl⟩ ?_
  rintro n σ' ls' ⟨ds, pairs, kind, num, rfl, B, rfl, l0, l1, l2, l3, l4, l5⟩
  have hBl := B.len
  refine opt_of l0 ?_
  sizeOf_list_dec
  refine opt_of l1 ?_
  sizeOf_list_dec
  by_cases q : w < (pairs.length : Int)
  · rw [decide_eq_true q]
    sizeOf_list_dec
    refine c_any hM ⟨by decide, fun b hb => ?_⟩
    have hab : a ≠ b := by rintro rfl; rw [upd_self] at hb; cases hb
    have hbσ : σ b = none := by rw [upd_ne (Ne.symm hab)] at hb; exact hb
    refine c_for_x hM (fun xs => ∃ rs : List (List V), xs = rs.map .tup ∧ rs.flatten = pairs ∧ (∀ r ∈ rs, halfI w ≤ r.length ∧ (r.length : Int) ≤ w) ∧ 2 ≤ rs.length) ?_ ?_
    · refine opt_of l0 (opt_of l1 (opt_of l2 ?_))
      sizeOf_list_dec
      exact hV _ _ _ ⟨pairs, w, c / 3, rfl, hw3, hw, q, by (first | lia | omega), fun rs h1 h2 h3 => ⟨rfl, _, rfl, rs, rfl, h1, h2, h3⟩⟩
    rintro _ ⟨rs, rfl, hf, hr, h2⟩
    have hd1 : 1 ≤ 1 + c / 5 % 2 := by (first | lia | omega)
    have hstep := B.step hw3 hd1 hf hr h2
    have hsl := hstep.len
    rw [List.length_append, add_len, abv_len] at hsl
    have hne : ∀ r ∈ rs, r ≠ [] := fun r h e => by have := (hr r h).1; rw [e] at this; unfold halfI at this; simp at this; (first | lia | omega)
    have hrm : ∀ r ∈ rs, ∀ p ∈ r, pairF kind p = true := fun r h p hp => (B.good p (by rw [← hf]; exact List.mem_flatten.mpr ⟨r, h, hp⟩)).1
    have hfresh : ∀ k : Nat, k < rs.length → lookD (num + (1 + c / 5 % 2) * (k : Int)) (ds ++ addR kind (1 + c / 5 % 2) num (rs.take k)) = none := fun k hk => lookD_none.mpr fun hm => by
      have e : keysD (ds ++ addR kind (1 + c / 5 % 2) num (rs.take k)) = keysD ds ++ keysD (addR kind (1 + c / 5 % 2) num (rs.take k)) := by simp [keysD]
      rw [e] at hm
      have := Int.mul_nonneg (show 0 ≤ 1 + c / 5 % 2 by (first | lia | omega)) (Int.natCast_nonneg k)
      rcases List.mem_append.mp hm with hm | hm
      · have := (B.lt _ hm).2; (first | lia | omega)
      · obtain ⟨p, hp, e⟩ := List.mem_map.mp hm
        have := (add_ge hd1 p hp).2.1
        rw [List.length_take, Nat.min_eq_left (by (first | lia | omega))] at this
        (first | lia | omega)
    refine ⟨fun k σ' ls' => σ' = (σ.upd a (.dict false (ds ++ addR kind (1 + c / 5 % 2) num (rs.take k)))).upd b (.list false (abvR (1 + c / 5 % 2) num (rs.take k))) ∧ ls' 1 = some (.int w) ∧ ls' 2 = some (.int c) ∧ ls' 3 = some (.ref a) ∧ ls' 4 = some (.str kind) ∧ ls' 5 = some (.int (num + (1 + c / 5 % 2) * (k : Int))) ∧ ls' 6 = some (.ref b), ⟨?_, l1, l2, l3, l4, ?_, rfl⟩, ?_, ?_⟩
    · rw [List.take_zero]; show _ = (σ.upd a (.dict false (ds ++ []))).upd b _; rw [List.append_nil]; rfl
    · show ls' 5 = _; rw [l5]; simp
    · rintro k v hv σ' ls' ⟨rfl, l1, l2, l3, l4, l5, l6⟩
      rw [List.getElem?_map, Option.map_eq_some_iff] at hv
      obtain ⟨r, hr', rfl⟩ := hv
      have hkl : k < rs.length := (List.getElem?_eq_some_iff.mp hr').1
      have hrmem : r ∈ rs := List.mem_iff_getElem?.mpr ⟨k, hr'⟩
      have htk : rs.take (k + 1) = rs.take k ++ [r] := by rw [List.take_add_one, hr']; rfl
      have hla : (rs.take k).length = k := by rw [List.length_take]; (first | lia | omega)
      obtain ⟨x, r', rfl⟩ : ∃ x r', r = x :: r' := by
        cases r with
        | nil => exact absurd rfl (hne [] hrmem)
        | cons x y => exact ⟨x, y, rfl⟩
      obtain ⟨kx, bx, rfl⟩ := pair_key (hrm _ hrmem x (.head _))
      refine c_set hM ?_
      refine opt_of l4 ?_
      sizeOf_list_dec
      refine opt_of l3 (opt_of l5 ?_)
      refine ⟨a, _, _, rfl, rfl, by rw [upd_ne hab, upd_self], by rw [List.length_append, add_len, hla]; unfold big; (first | lia | omega), ?_⟩
      refine c_expr hM (opt_of l6 ⟨⟨b, false, _, rfl, by rw [upd_ne (Ne.symm hab), upd_self]⟩, ?_⟩)
      sizeOf_list_dec
      refine opt_of (r_it_t0 (σ := σ)) ?_
      sizeOf_list_dec
      refine opt_of l5 ?_
      sizeOf_list_dec
      refine ⟨_, by rw [upd_ne (Ne.symm hab), upd_self], by rw [abv_len, hla]; unfold big; (first | lia | omega), ?_⟩
      refine c_any hM (r := .nil) (opt_of l5 ?_)
      sizeOf_list_dec
      refine opt_of l2 ?_
      sizeOf_list_dec
      refine ⟨?_, l1, l2, l3, l4, ?_, l6⟩
      · rw [htk, add_snoc, abv_snoc, hla, put_new (hfresh k hkl), ← List.append_assoc]
        funext z
        simp only [View.upd]
        by_cases q1 : z = b
        · simp [q1]; rfl
        · by_cases q2 : z = a
          · simp [q1, q2, hab]; rfl
          · simp [q1, q2]
      · show some (V.int _) = _
        rw [show (num + (1 + c / 5 % 2) * (k : Int)) + 1 + c / 5 % 2 = num + (1 + c / 5 % 2) * ((k + 1 : Nat) : Int) by rw [Int.natCast_add, Int.mul_add]; (first | lia | omega)]
    · rintro σ' ls' ⟨rfl, l1, l2, l3, l4, l5, l6⟩
      rw [List.length_map, List.take_length] at *
      refine cut_freezeL l6 (upd_self _ _ _) ?_
      rw [del_upd (by rw [upd_ne (Ne.symm hab)]; exact hbσ)]
      refine c_any hM ?_
      sizeOf_list_dec
      refine c_any hM (r := .nil) ?_
      refine ⟨(abvR (1 + c / 5 % 2) num rs).length, ?_, _, _, sBranch, _, rfl, hstep, rfl, rfl, l1, l2, l3, rfl, l5⟩
      rw [abv_len]
      have : 2 * rs.length ≤ pairs.length := by
        refine hf ▸ ?_
        clear hstep hsl hfresh hrm hne hf B
        induction rs with
        | nil => simp
        | cons r rs ih =>
          have h1 := (hr r (.head _)).1
          simp only [List.flatten_cons, List.length_append, List.length_cons]
          have : ∀ rs : List (List V), (∀ r ∈ rs, halfI w ≤ r.length) → 2 * rs.length ≤ rs.flatten.length := by
            intro rs h
            induction rs with
            | nil => simp
            | cons r rs ih =>
              have h1 := h r (.head _)
              have h2 := ih fun x hx => h x (.tail _ hx)
              simp only [List.flatten_cons, List.length_append, List.length_cons]
              unfold halfI at h1; (first | lia | omega)
          have h2 := this rs fun x hx => (hr x (.tail _ hx)).1
          unfold halfI at h1; (first | lia | omega)
      (first | lia | omega)
  · simp only [decide_eq_false q]
    sizeOf_list_dec
    refine c_set hM ?_
    refine opt_of l4 (opt_of l0 ?_)
    sizeOf_list_dec
    refine opt_of l3 ?_
    refine ⟨a, 0, _, rfl, rfl, upd_self _ _ _, by unfold big; (first | lia | omega), ?_⟩
    rw [upd_upd]
    refine cut_freezeD l3 (upd_self _ _ _) ?_
    refine (Eq.symm (del_upd ha)) ▸ ?_
    refine c_ret hM ?_
    have T := B.finish hw3 (by (first | lia | omega)) (by (first | lia | omega))
    refine h _ T ⟨keysD ds, ?_, B.asc, fun k hk => by have := (B.lt k hk).1; (first | lia | omega)⟩ ?_
    · rw [put_new B.zero]; simp [keysD]
    · have := len_put_le (k := 0) (v := blkV kind pairs) (es := ds)
      show (putD 0 (blkV kind pairs) ds).length ≤ 500
      (first | lia | omega)
end

section

open PySem PySem.W PySem.Calls PyProof.Rows
set_option maxRecDepth 100000
set_option linter.unusedSimpArgs false
set_option linter.unusedVariables false
theorem dat2 {n : Nat} {a b : V} (ha : Dat n a) (hb : Dat n b) : Dat (n + 1) (.tup [a, b]) := .tup fun x hx => by
  simp only [List.mem_cons, List.not_mem_nil, or_false] at hx
  rcases hx with rfl | rfl
  · exact ha
  · exact hb
theorem bad_key {w : Str} {a b : V} (h1 : keyF a = false) : pairF w (.tup [a, b]) = false := by
  show (keyF a && _) = false
  refine (Eq.symm h1) ▸ ?_; rfl
theorem bad_val {a b : V} (h1 : valueF b = false) : pairF sLeaf (.tup [a, b]) = false := by
  show (keyF a && (if sLeaf = sLeaf then valueF b else numF b)) = false
  rw [if_pos rfl, h1, Bool.and_false]
theorem bad_num {a b : V} (h1 : numF b = false) : pairF sBranch (.tup [a, b]) = false := by
  show (keyF a && (if sBranch = sLeaf then valueF b else numF b)) = false
  rw [if_neg ((leaf_ne ▸ id)), h1, Bool.and_false]
noncomputable def pspS (xs : List V) (Q : Post) (σ : View) : Prop := ∃ kind p c, xs = [.str kind, p, .int c] ∧ (kind = sLeaf ∨ kind = sBranch) ∧ pairF kind p = true ∧ Dat 1 p ∧ ∀ p', pairF kind p' = false → Dat 2 p' → Q p' σ
theorem pair_sp_ok (Φ : Spec) (hM : SpecMono Φ) (Gc : Nat → V) {xs : List V} {Q : Post} {σ : View} (h : pspS xs Q σ) : xs.length = 3 ∧ swps Φ Gc m_law_pair_spoilt (fun σ' _ => Q .none σ') Q σ (argLs xs) := by
  obtain ⟨kind, p, c, rfl, hk, hp, hd, h⟩ := h
  refine Exists.elim (pair_key hp) fun k hx => ?_; obtain ⟨b, rfl⟩ := hx
  have hkk : k.natAbs < 10 ^ 70 := by
    have := (Bool.and_eq_true_iff.mp hp).1
    have h1 := of_decide_eq_true (Bool.and_eq_true_iff.mp this).1
    have h2 := of_decide_eq_true (Bool.and_eq_true_iff.mp this).2
    (first | lia | omega)
  have hdb : Dat 1 b := by
    cases hd with | tup h => exact (h b (by simp)).mono ((Nat.zero_le _))
  refine ⟨rfl, ?_⟩
  skip
  skip
  have hc : c / 3 % 4 = 0 ∨ c / 3 % 4 = 1 ∨ c / 3 % 4 = 2 ∨ c / 3 % 4 = 3 := by (first | lia | omega)
  by_cases q : c % 3 = 0
  · refine c_ite_ret hM ?_ ?_
    · sizeOf_list_dec
      exact ⟨rfl, decide_eq_true q⟩
    · sizeOf_list_dec
      refine opt_if hkk ?_
      sizeOf_list_dec
      rcases hc with e | e | e | e <;> refine (Eq.symm e) ▸ ?_
      · exact h _ (bad_key rfl) (dat2 (.bool _) hdb)
      · exact h _ (bad_key (rfl)) (dat2 (.int _) hdb)
      · exact h _ (bad_key rfl) (dat2 (.str _) hdb)
      · exact h _ (bad_key rfl) (dat2 .none hdb)
  · refine c_guard hM ?_ ?_
    · sizeOf_list_dec
      exact ⟨rfl, decide_eq_false q⟩
    rcases hk with rfl | rfl
    · refine c_ite_ret hM ?_ ?_
      · sizeOf_list_dec
        exact ⟨rfl, decide_eq_true rfl⟩
      · sizeOf_list_dec
        refine opt_of (if_pos (e := none) (show (Str.ofString "v").length * (61 : Int).toNat ≤ big ∧ smallI 61 = true from ⟨by decide +kernel, rfl⟩)) ?_
        sizeOf_list_dec
        rcases hc with e | e | e | e <;> rw [e]
        · exact h _ (bad_val (by decide +kernel)) (dat2 (.int _) (.str _))
        · exact h _ (bad_val (by decide +kernel)) (dat2 (.int _) (.str _))
        · exact h _ (bad_val rfl) (dat2 (.int _) .none)
        · exact h _ (bad_val rfl) (dat2 (.int _) (.int _))
    · refine c_guard hM ?_ ?_
      · sizeOf_list_dec
        exact ⟨rfl, decide_eq_false (by rw [show (sBranch = Str.ofString "leaf") = False from leaf_ne]; exact id)⟩
      refine c_ret hM ?_
      sizeOf_list_dec
      rcases hc with e | e | e | e <;> rw [e]
      · exact h _ (bad_num rfl) (dat2 (.int _) (.bool _))
      · exact h _ (bad_num rfl) (dat2 (.int _) (.int _))
      · exact h _ (bad_num rfl) (dat2 (.int _) (.int _))
      · exact h _ (bad_num rfl) (dat2 (.int _) (.str _))
end

section

open PySem PySem.W PySem.Calls PyProof.Rows
set_option maxRecDepth 100000
set_option linter.unusedSimpArgs false
set_option linter.unusedVariables false
theorem w_comp_r2P {Φ : Spec} {G : Nat → V} {ls : Ls} {σ : View} (hM : SpecMono Φ) {e1 e2 elt : ME} {x : Nat} {lo hi : Int} {Qp : Post} (P : V → Prop) (he : cwps Φ G ls (.cons e1 (.cons e2 .nil)) (fun vs σ' => σ' = σ ∧ vs = [.int lo, .int hi]) σ) (h1 : smallI lo = true) (h2 : smallI hi = true) (hb : (hi - lo).toNat ≤ big) (h : ∀ k : Nat, k < (hi - lo).toNat → ewp Φ G (ls.set x (.int (lo + (k : Int)))) elt (fun d σ₄ => σ₄ = σ ∧ P d) σ)
    (hQ : ∀ l : List V, l.length = (hi - lo).toNat → (∀ x ∈ l, P x) → Qp (.lst l) σ) : ewp Φ G ls (.comp false elt (.one x) (.range (.cons e1 (.cons e2 .nil))) .nil) Qp σ := by
  refine ewps_mono (Q' := fun vs σ' => itWp 1 vs (fun xs u σ₁ => _) σ') hM _ (cwps_e hM _ he) ?_
  rintro vs σ' ⟨e1, e2⟩
  subst e1; subst e2
  have e : rangeXs [.int lo, .int hi] = some ((List.range (hi - lo).toNat).map fun (k : Nat) => V.int (lo + (k : Int))) := by
    show (if (smallI lo && smallI hi) = true then some ((rangeL lo hi 1).map V.int) else none) = _
    simp only [h1, h2, rangeL1, List.map_map]; rfl
  refine ⟨_, e, comp_P P ⟨rfl, rfl⟩ (by simpa using hb) (fun k v hv => ?_) hM fun l h1 h2 => hQ l (by rw [h1]; simp) h2⟩
  rw [List.getElem?_map, Option.map_eq_some_iff] at hv
  obtain ⟨j, hj, rfl⟩ := hv
  obtain ⟨hj1, hj2⟩ := List.getElem?_eq_some_iff.mp hj
  simp only [List.length_range, List.getElem_range] at hj1 hj2
  subst hj2
  exact h k hj1
inductive SpB (kind : Str) (r : List V) (root : Bool) (w : Int) : V → Prop
  | none : SpB kind r root w .none
  | unfit {v : V} (hd : Dat 9 v) (hl : ∀ k ps, v = .tup [k, .tup ps] → ps.length ≤ 200) (h : ∀ k, decide (k = 0) = root → fitF k v w = false) : SpB kind r root w v
  | key {p0 p1 : V} {r' : List V} (e : r = p0 :: r') (hk : root = false ∨ kind = sBranch) (h1 : keyOf p1 ≠ keyOf p0) (h2 : numOf p1 = numOf p0) (hd : Dat 1 p1) : SpB kind r root w (blkV kind (p1 :: r'))
  | twice {r' : List V} (h : ¬ (r'.map numOf).Nodup) (hl : r'.length ≤ 200) (hd : ∀ p ∈ r', Dat 1 p) : SpB kind r root w (blkV sBranch r')
theorem unfit_of {v : V} {w : Int} (h : ∀ l, blockF v l w = true → False) (k : Int) : fitF k v w = false := by
  cases q : fitF k v w with
  | false => rfl
  | true =>
    unfold fitF at q
    split at q
    · exact (h _ (Bool.and_eq_true_iff.mp q).1).elim
    · exact (h _ q).elim
theorem blkV_inj {k k' : Str} {r r' : List V} (h : blkV k r = blkV k' r') : k = k' ∧ r = r' := by
  unfold blkV at h; simpa using h
theorem dat_b {n : Nat} {kind : Str} {r : List V} (h : ∀ p ∈ r, Dat n p) : Dat (n + 2) (blkV kind r) := dat2 (.str _) (.tup h)
theorem len_b {kind : Str} {r : List V} {n : Nat} (h : r.length ≤ n) : ∀ k ps, blkV kind r = .tup [k, .tup ps] → ps.length ≤ n := fun k ps e => by
  unfold blkV at e; simp at e; exact e.2 ▸ h
noncomputable def bspS (xs : List V) (Q : Post) (σ : View) : Prop := ∃ kind r root way w more, xs = [blkV kind r, .bool root, .int way, .int w, .int more] ∧ (kind = sLeaf ∨ kind = sBranch) ∧ 3 ≤ w ∧ w ≤ 64 ∧ (r.length : Int) ≤ w ∧ (∀ p ∈ r, pairF kind p = true ∧ Dat 1 p) ∧ risesF r = true ∧ (root = false → halfI w ≤ r.length) ∧ (root = false ∨ kind = sBranch → 2 ≤ r.length) ∧ 0 ≤ way ∧ way ≤ 8 ∧ ∀ v, SpB kind r root w v → Q v σ
theorem slice_init {α : Type} {xs : List α} {x : α} : sliceL (xs ++ [x]) 0 (some (-1)) = xs := by
  delta sliceL clipI
  simp only [Option.elim, List.length_append, List.length_singleton]
  rw [if_neg (show ¬ ((0 : Int) < 0) by decide), if_pos (show ((-1 : Int) < 0) by decide), show (-1 + ((xs.length + 1 : Nat) : Int)).toNat = xs.length by (first | lia | omega)]
  simp
theorem it_last {σ : View} {xs : List V} {x : V} : itemV σ (.tup (xs ++ [x])) (.int (-1)) = some x := by
  simp only [r_it_t]
  unfold idxOf
  rw [if_neg (by decide), if_pos (by simp; (first | lia | omega))]
  show (xs ++ [x])[_]? = _
  rw [show ((-1 : Int) + (((xs ++ [x]).length : Nat) : Int)).toNat = xs.length by simp; (first | lia | omega)]
  simp
theorem le_big {n : Nat} (h : n ≤ 200) : n ≤ big := Nat.le_trans h (by decide)
theorem rises_rev {r : List V} (h : risesF r = true) (hl : (1 : Int) < r.length) : risesF r.reverse = false := by
  match r, hl, h with
  | a :: b :: t, _, h1 =>
    have h1 := of_decide_eq_true (Bool.and_eq_true_iff.mp h1).1
    simp only [show (a :: b :: t).reverse = t.reverse ++ b :: a :: [] by simp, rises_bad (Int.le_of_lt h1)]
theorem bsp_ok (Φ : Spec) (hM : SpecMono Φ) (Gc : Nat → V) (hP : ∀ xs Q σ, pspS xs Q σ → Φ 16 xs Q σ) {xs : List V} {Q : Post} {σ : View} (h : bspS xs Q σ) : xs.length = 5 ∧ swps Φ Gc m_law_block_spoilt (fun σ' _ => Q .none σ') Q σ (argLs xs) := by
  obtain ⟨kind, r, root, way, w, more, rfl, hk, hw3, hw, hlen, hgood, hris, hroot, htwo, w0, w8, h⟩ := h
  refine ⟨rfl, ?_⟩
  unfold m_law_block_spoilt ss
  simp only [List.foldr]
  refine c_assign hM (fun d => d = .str kind) ?_ ?_
  · sizeOf_list_dec
    exact opt_of (r_it_t0 (σ := σ)) ⟨rfl, rfl⟩
  rintro _ rfl
  refine c_assign hM (fun d => d = .tup r) ?_ ?_
  · sizeOf_list_dec
    exact opt_of (a := .tup r) rfl ⟨rfl, rfl⟩
  rintro _ rfl
  have hkl : kind.length ≤ 10 := by rcases hk with rfl | rfl <;> decide +kernel
  have hes : kind.length + (Str.ofString "es").length ≤ big := by
    have : (Str.ofString "es").length = 2 := by decide +kernel
    unfold big; (first | lia | omega)
  have hr100 : r.length ≤ 100 := by lia
  have hr200 : r.length ≤ 200 := Nat.le_trans hr100 (by decide)
  have hd1 : ∀ p ∈ r, Dat 1 p := fun p hp => (hgood p hp).2
  have hbad : ∀ {r' : List V}, (∀ p ∈ r', Dat 7 p) → r'.length ≤ 200 → (∀ k, decide (k = 0) = root → fitF k (blkV kind r') w = false) → Q (.tup [.str kind, .tup r']) σ := fun h1 h2 h3 => h _ (.unfit (dat_b h1) (len_b h2) h3)
  -- 0
  by_cases q0 : way = 0 ∧ (1 : Int) < r.length
  · refine c_ite_ret hM ?_ ?_
    · sizeOf_list_dec
      rw [decide_eq_true q0.1]
      exact ⟨rfl, decide_eq_true q0.2⟩
    · sizeOf_list_dec
      refine opt_of (a := .tup r.reverse) rfl ?_
      sizeOf_list_dec
      refine hbad (fun p hp => (hd1 p (List.mem_reverse.mp hp)).mono (by decide)) (by rw [List.length_reverse]; exact hr200) (fun k _ => unfit_of (fun l hb => ?_) k)
      obtain ⟨k', r', e, _, _, _, _, hr⟩ := block_inv hb
      obtain ⟨_, rfl⟩ := blkV_inj e
      exact absurd hr (by rw [rises_rev hris q0.2]; decide)
  refine c_guard hM ?_ ?_
  · sizeOf_list_dec
    cases ha : decide (way = 0) with
    | false => exact ⟨rfl, rfl⟩
    | true => exact ⟨rfl, decide_eq_false fun hb => q0 ⟨of_decide_eq_true ha, hb⟩⟩
  -- 1
  by_cases q1 : way = 1 ∧ root = true ∧ kind = sBranch
  · obtain ⟨q1, rfl, rfl⟩ := q1
    refine c_ite_ret hM ?_ ?_
    · sizeOf_list_dec
      rw [decide_eq_true q1]
      exact (show σ = σ ∧ decide (sBranch = sBranch) = true from ⟨rfl, decide_eq_true rfl⟩)
    · sizeOf_list_dec
      rw [sliceL_take (by decide)]
      refine hbad (fun p hp => (hd1 p (List.mem_of_mem_take hp)).mono (by decide)) (Nat.le_trans (List.length_take_le _ _) (by decide)) (fun k hk0 => ?_)
      unfold fitF
      rw [if_pos (of_decide_eq_true hk0)]
      rw [show isLf (blkV sBranch (r.take (1 : Int).toNat)) = false from br_lf br_blkV.1]
      rw [show decide (2 ≤ (rowV (blkV sBranch (r.take (1 : Int).toNat))).length) = false from decide_eq_false fun hc => absurd (Nat.le_trans hc (List.length_take_le _ _)) (by decide), Bool.or_false, Bool.and_false]
  refine c_guard hM ?_ ?_
  · sizeOf_list_dec
    cases ha : decide (way = 1) with
    | false => exact ⟨rfl, rfl⟩
    | true =>
      cases root with
      | false => exact ⟨rfl, rfl⟩
      | true => exact ⟨rfl, decide_eq_false fun hb => q1 ⟨of_decide_eq_true ha, rfl, hb⟩⟩
  by_cases q1' : way = 1 ∧ root = false
  · obtain ⟨qa, rfl⟩ := q1'
    have hh : 2 ≤ halfI w := by unfold halfI; lia
    refine c_ite_ret hM ?_ ?_
    · sizeOf_list_dec
      rw [decide_eq_true qa]
      exact (show σ = σ ∧ (true : Bool) = true from ⟨rfl, rfl⟩)
    · sizeOf_list_dec
      rw [show (w + 1) / 2 - 1 = halfI w - 1 from rfl, sliceL_take (by lia)]
      refine hbad (fun p hp => (hd1 p (List.mem_of_mem_take hp)).mono (by decide)) (Nat.le_trans (List.length_take_le' _ _) hr200) (fun k hk0 => ?_)
      unfold fitF
      rw [if_neg (of_decide_eq_false hk0)]
      cases q : blockF (blkV kind (r.take (halfI w - 1).toNat)) (halfI w) w with
      | false => rfl
      | true =>
        obtain ⟨k', r', e, _, hl, _⟩ := block_inv q
        obtain ⟨_, rfl⟩ := blkV_inj e
        have := List.length_take_le (halfI w - 1).toNat r
        lia
  refine c_guard hM ?_ ?_
  · sizeOf_list_dec
    cases ha : decide (way = 1) with
    | false => exact ⟨rfl, rfl⟩
    | true =>
      cases root with
      | false => exact absurd ⟨of_decide_eq_true ha, rfl⟩ q1'
      | true => exact ⟨rfl, rfl⟩
  -- 2
  by_cases q2 : way = 2 ∧ (root = false ∨ kind = sBranch)
  · obtain ⟨p, r', rfl⟩ : ∃ p r', r = p :: r' := by
      cases r with
      | nil => exact absurd (htwo q2.2) (by decide)
      | cons p r' => exact ⟨p, r', rfl⟩
    obtain ⟨k, b, rfl⟩ := pair_key (hgood _ (.head _)).1
    have hdb : Dat 0 b := by
      cases hd1 _ (.head _) with | tup h => exact h b (.tail _ (.head _))
    refine c_ite_ret hM ?_ ?_
    · sizeOf_list_dec
      rw [decide_eq_true q2.1]
      cases root with
      | false => exact (show σ = σ ∧ (true : Bool) = true from ⟨rfl, rfl⟩)
      | true => exact (show σ = σ ∧ decide (kind = sBranch) = true from ⟨rfl, decide_eq_true (q2.2.resolve_left (by decide))⟩)
    sizeOf_list_dec
    refine opt_of (r_it_t0 (σ := σ)) ?_
    refine opt_of (r_it_t0 (σ := σ)) ?_
    sizeOf_list_dec
    refine opt_of (r_it_t0 (σ := σ)) ?_
    sizeOf_list_dec
    rw [sliceL_drop (by decide)]
    refine opt_of (if_pos (e := none) (show 1 + r'.length ≤ big from Nat.le_trans (Nat.le_of_eq (Nat.add_comm _ _)) (le_big hr200))) ?_
    sizeOf_list_dec
    refine h _ (.key (p1 := .tup [.int (k - 1), b]) rfl q2.2 ?_ (by cases b <;> rfl) ?_)
    · show k - 1 ≠ k; lia
    · exact dat2 (.int _) hdb
  refine c_guard hM ?_ ?_
  · sizeOf_list_dec
    cases ha : decide (way = 2) with
    | false => exact ⟨rfl, rfl⟩
    | true =>
      cases root with
      | false => exact absurd ⟨of_decide_eq_true ha, .inl rfl⟩ q2
      | true => exact (show σ = σ ∧ decide (kind = sBranch) = false from ⟨rfl, decide_eq_false fun hb => q2 ⟨of_decide_eq_true ha, .inr hb⟩⟩)
  -- 3
  by_cases q3 : way = 3 ∧ kind = sBranch
  · obtain ⟨q3, rfl⟩ := q3
    have h2 := htwo (.inr rfl)
    obtain ⟨p, r', rfl⟩ : ∃ p r', r = p :: r' := by
      cases r with
      | nil => exact absurd h2 (by decide)
      | cons p r' => exact ⟨p, r', rfl⟩
    have hr' : r' ≠ [] := fun e => by rw [e] at h2; exact absurd h2 (by simp)
    obtain ⟨m, x, rfl⟩ : ∃ m x, r' = m ++ [x] := ⟨r'.dropLast, r'.getLast hr', (List.dropLast_concat_getLast hr').symm⟩
    obtain ⟨k, b, rfl⟩ := pair_key (hgood p (.head _)).1
    obtain ⟨k', b', rfl⟩ := pair_key (hgood x (.tail _ (List.mem_append_right _ (.head _)))).1
    have hdb : Dat 0 b := by
      cases hd1 _ (.head _) with | tup h => exact h b (.tail _ (.head _))
    have hl3 : (V.tup [.int k, b] :: m).length + 1 ≤ 200 := Nat.le_trans (Nat.le_of_eq (List.length_append (as := V.tup [.int k, b] :: m) (bs := [.tup [.int k', b']])).symm) hr200
    refine c_ite_ret hM ?_ ?_
    · sizeOf_list_dec
      rw [decide_eq_true q3]
      exact (show σ = σ ∧ decide (sBranch = sBranch) = true from ⟨rfl, decide_eq_true rfl⟩)
    sizeOf_list_dec
    rw [show sliceL (V.tup [.int k, b] :: (m ++ [.tup [.int k', b']])) 0 (some (-1)) = V.tup [.int k, b] :: m from slice_init (xs := V.tup [.int k, b] :: m)]
    refine opt_of (it_last (σ := σ) (xs := .tup [.int k, b] :: m)) ?_
    refine opt_of (r_it_t0 (σ := σ)) ?_
    sizeOf_list_dec
    refine opt_of (r_it_t0 (σ := σ)) ?_
    sizeOf_list_dec
    refine opt_of (if_pos (e := none) (show (V.tup [.int k, b] :: m).length + 1 ≤ big from le_big hl3)) ?_
    sizeOf_list_dec
    refine h _ (.twice ?_ ?_ ?_)
    · intro hn
      simp only [List.cons_append, List.map_cons, List.map_append, List.map_nil] at hn
      have := (List.nodup_cons.mp hn).1
      rw [show numOf (V.tup [.int k, b]) = numOf (V.tup [.int k', b]) by cases b <;> rfl] at this
      exact this (List.mem_append_right _ (.head _))
    · rw [List.length_append]; exact hl3
    · intro q hq
      rcases List.mem_append.mp hq with hq | hq
      · exact hd1 q (by rcases List.mem_cons.mp hq with rfl | hq; exact .head _; exact .tail _ (List.mem_append_left _ hq))
      · simp only [List.mem_singleton] at hq; subst hq; exact dat2 (.int _) hdb
  refine c_guard hM ?_ ?_
  · sizeOf_list_dec
    cases ha : decide (way = 3) with
    | false => exact ⟨rfl, rfl⟩
    | true => exact ⟨rfl, decide_eq_false fun hb => q3 ⟨of_decide_eq_true ha, hb⟩⟩
  -- 4
  by_cases q4 : way = 4 ∧ (0 : Int) < r.length
  · refine c_ite_ret hM ?_ ?_
    · sizeOf_list_dec
      rw [decide_eq_true q4.1]
      exact ⟨rfl, decide_eq_true q4.2⟩
    obtain ⟨m, x, rfl⟩ : ∃ m x, r = m ++ [x] := by
      have hr : r ≠ [] := fun e => by rw [e] at q4; exact absurd q4.2 (by decide)
      exact ⟨r.dropLast, r.getLast hr, (List.dropLast_concat_getLast hr).symm⟩
    obtain ⟨k', b', rfl⟩ := pair_key (hgood x (List.mem_append_right _ (.head _))).1
    have hdb : Dat 0 b' := by
      cases hd1 (.tup [.int k', b']) (List.mem_append_right _ (.head _)) with | tup h => exact h b' (.tail _ (.head _))
    generalize hn : (m ++ [V.tup [.int k', b']]).length = n at hlen hr200
    have hi : (w + 2 - (n : Int) - 1).toNat ≤ 200 := by lia
    sizeOf_list_dec
    refine w_comp_r2P hM (lo := 1) (hi := w + 2 - (n : Int)) (Dat 1) ?_ (by decide) (smallI_of (by lia) (by lia)) (le_big hi) (fun k hk => cwp_e hM _ ?_) fun l hl hP => ?_
    · sizeOf_list_dec
      exact ⟨rfl, by rw [hn]⟩
    · sizeOf_list_dec
      refine opt_of (it_last (σ := σ) (xs := m)) ?_
      refine opt_of (r_it_t0 (σ := σ)) ?_
      sizeOf_list_dec
      refine opt_of (it_last (σ := σ) (xs := m)) ?_
      sizeOf_list_dec
      exact ⟨rfl, dat2 (.int _) hdb⟩
    · sizeOf_list_dec
      have hl2 : (m ++ [V.tup [.int k', b']]).length + l.length ≤ 200 ∧ w < ((m ++ [V.tup [.int k', b']]).length + l.length : Nat) := by rw [hl, hn]; clear hd1 hgood hbad h; lia
      refine opt_of (if_pos (e := none) (show (m ++ [V.tup [.int k', b']]).length + l.length ≤ big from le_big hl2.1)) ?_
      sizeOf_list_dec
      refine hbad (fun p hp => ?_) (by rw [List.length_append]; exact hl2.1) (fun k _ => unfit_of (fun l' hb => ?_) k)
      · rcases List.mem_append.mp hp with hp | hp
        · exact (hd1 p hp).mono (by decide)
        · exact (hP p hp).mono (by decide)
      · obtain ⟨k', r', e, _, _, hl3, _⟩ := block_inv hb
        obtain ⟨_, rfl⟩ := blkV_inj e
        rw [List.length_append] at hl3
        exact absurd hl2.2 (Int.not_lt.mpr hl3)
  refine c_guard hM ?_ ?_
  · sizeOf_list_dec
    cases ha : decide (way = 4) with
    | false => exact ⟨rfl, rfl⟩
    | true => exact ⟨rfl, decide_eq_false fun hb => q4 ⟨of_decide_eq_true ha, hb⟩⟩
  -- 5
  by_cases q5 : way = 5 ∧ (0 : Int) < r.length
  · refine ctwp_t hM ?_
    sizeOf_list_dec
    rw [decide_eq_true q5.1]
    sizeOf_list_dec
    rw [decide_eq_true q5.2]
    refine c_assign hM (fun d => d = .int (more % r.length)) ?_ ?_
    · sizeOf_list_dec
      refine opt_if q5.2 ?_
      exact ⟨rfl, rfl⟩
    rintro _ rfl
    have m0 := Int.emod_nonneg more (Int.ne_of_gt q5.2)
    have m1 := Int.emod_lt_of_pos more q5.2
    generalize more % (r.length : Int) = i at m0 m1
    obtain ⟨i, rfl⟩ := Int.eq_ofNat_of_zero_le m0
    have hi : i < r.length := Int.ofNat_lt.mp m1
    refine c_ret hM ?_
    sizeOf_list_dec
    rw [sliceL_take m0]
    refine opt_of (a := r[i]) (by rw [idxOf_nat hi]; exact List.getElem?_eq_getElem hi) ?_
    sizeOf_list_dec
    refine hP _ _ _ ⟨kind, _, _, rfl, hk, (hgood _ (List.getElem_mem hi)).1, hd1 _ (List.getElem_mem hi), fun p' hp' hdp => ?_⟩
    sizeOf_list_dec
    have ht : (r.take (i : Int).toNat).length ≤ 100 := Nat.le_trans (List.length_take_le' _ _) hr100
    refine opt_of (if_pos (e := none) (show (r.take (i : Int).toNat).length + 1 ≤ big from le_big (Nat.le_trans (Nat.succ_le_succ ht) (by decide)))) ?_
    sizeOf_list_dec
    rw [sliceL_drop (Int.le_add_one m0)]
    have ht2 : (r.take (i : Int).toNat ++ [p']).length + (r.drop ((i : Int) + 1).toNat).length ≤ 200 := by
      rw [List.length_append, List.length_take, List.length_drop]; clear hd1 hgood hbad h; simp; lia
    refine opt_of (if_pos (e := none) (show (r.take (i : Int).toNat ++ [p']).length + (r.drop ((i : Int) + 1).toNat).length ≤ big from le_big ht2)) ?_
    sizeOf_list_dec
    refine hbad (fun p hp => ?_) (by rw [List.length_append]; exact ht2) (fun k _ => unfit_of (fun l' hb => ?_) k)
    · rcases List.mem_append.mp hp with hp | hp
      · rcases List.mem_append.mp hp with hp | hp
        · exact (hd1 p (List.mem_of_mem_take hp)).mono (by decide)
        · simp only [List.mem_singleton] at hp; subst hp; exact hdp.mono (by decide)
      · exact (hd1 p (List.mem_of_mem_drop hp)).mono (by decide)
    · obtain ⟨k', r', e, _, _, _, hall, _⟩ := block_inv hb
      obtain ⟨rfl, rfl⟩ := blkV_inj e
      have := hall p' (List.mem_append_left _ (List.mem_append_right _ (.head _)))
      rw [hp'] at this; cases this
  refine c_guard hM ?_ ?_
  · sizeOf_list_dec
    cases ha : decide (way = 5) with
    | false => exact ⟨rfl, rfl⟩
    | true => exact ⟨rfl, decide_eq_false fun hb => q5 ⟨of_decide_eq_true ha, hb⟩⟩
  -- the rest
  obtain ⟨v, hv, e⟩ : ∃ v, SpB kind r root w v ∧ ([V.none, .none, .none, .none, .none, .none, .tup [.str kind, .lst r], .tup [.str (kind ++ Str.ofString "es"), .tup r], .int 7][way.toNat]?) = some v := by
    obtain ⟨n, rfl⟩ := Int.eq_ofNat_of_zero_le w0
    have hn : n < 9 := Int.ofNat_lt.mp (Int.lt_add_one_of_le w8)
    have : n = 6 ∨ n = 7 ∨ n = 8 ∨ n < 6 := by clear hd1 hgood hbad h; lia
    rcases this with rfl | rfl | rfl | h6
    · exact ⟨_, .unfit (v := .tup [.str kind, .lst r]) (dat2 (.str _) (.lst fun p hp => (hd1 p hp).mono (by decide))) (fun k ps e => nomatch e) (fun k _ => unfit_of (fun l hb => by cases hb) k), rfl⟩
    · refine ⟨_, .unfit (v := blkV (kind ++ Str.ofString "es") r) (dat_b (n := 7) fun p hp => (hd1 p hp).mono (by decide)) (len_b hr200) (fun k _ => unfit_of (fun l hb => ?_) k), rfl⟩
      obtain ⟨k', r', e, hk', _⟩ := block_inv hb
      obtain ⟨rfl, _⟩ := blkV_inj e
      rcases hk with rfl | rfl <;> rcases hk' with e | e <;> revert e <;> decide +kernel
    · exact ⟨_, .unfit (v := .int 7) (.int _) (fun k ps e => nomatch e) (fun k _ => unfit_of (fun l hb => by cases hb) k), rfl⟩
    · refine ⟨.none, .none, ?_⟩
      show ((List.replicate 6 V.none) ++ [_, _, _])[n]? = _
      rw [List.getElem?_append_left (by exact h6), List.getElem?_replicate, if_pos h6]
  refine c_ret hM ?_
  sizeOf_list_dec
  refine opt_of (if_pos (e := none) (show kind.length + (Str.ofString "es").length ≤ big from hes)) ?_
  sizeOf_list_dec
  refine opt_of (a := v) ?_ (h v hv)
  rw [idxOf_pos w0 (Int.lt_of_le_of_lt w8 (by show (8 : Int) < 9; decide))]
  exact e
end

section

open PySem PySem.W PySem.Calls PyProof.Rows
set_option maxRecDepth 100000
set_option linter.unusedSimpArgs false
set_option linter.unusedVariables false
theorem len_put_ge {k : Int} {v : V} {es : Dct} : es.length ≤ (putD k v es).length := by
  have := congrArg List.length (keys_put (k := k) (v := v) (es := es))
  unfold keysD at this
  split at this
  · rw [List.length_map, List.length_map] at this; (first | lia | omega)
  · rw [List.length_append, List.length_map, List.length_map] at this; (first | lia | omega)
noncomputable def Grw (ds ds' : Dct) (m : Nat) : Prop := (keysD ds').Nodup ∧ (∀ p ∈ ds', p ∈ ds ∨ OkVal p) ∧ ds'.length ≤ ds.length + m
theorem Grw.put {ds ds' : Dct} {m : Nat} {k : Int} {v : V} (h : Grw ds ds' m) (hv : OkVal (k, v)) : Grw ds (putD k v ds') (m + 1) := by
  refine ⟨nodup_put h.1, fun p hp => ?_, ?_⟩
  · rcases mem_put hp with rfl | hp
    · exact .inr hv
    · exact h.2.1 p hp
  · have := len_put_le (k := k) (v := v) (es := ds')
    have := h.2.2; (first | lia | omega)
theorem okv {k : Int} {kind : Str} {r : List V} (h : ∀ p ∈ r, Dat 1 p) (hl : r.length ≤ 200) : OkVal (k, blkV kind r) :=
  ⟨(dat_b h).mono (by decide), fun k ps e => by have := len_b hl k ps e; unfold big; (first | lia | omega)⟩
noncomputable def dprS (xs : List V) (Q : Post) (σ : View) : Prop := ∃ a ds n f more w, xs = [.ref a, .int n, .int f, .int more, .int w] ∧ σ a = some (.dict false ds) ∧ (keysD ds).Nodup ∧ ds.length ≤ 600 ∧ 3 ≤ w ∧ w ≤ 64 ∧ n < more ∧ ∀ σ' ds' r, σ' a = some (.dict false ds') → (∀ x, x ≠ n → x < more → lookD x ds' = lookD x ds) → lookD n ds' = some (blkV sBranch r) → Grw ds ds' 4 → Q (.ref a) σ'
theorem deep_ok (Φ : Spec) (hM : SpecMono Φ) (Gc : Nat → V) {xs : List V} {Q : Post} {σ : View} (h : dprS xs Q σ) : xs.length = 5 ∧ swps Φ Gc m_law_deeper (fun σ' _ => Q .none σ') Q σ (argLs xs) := by
  refine Exists.elim h fun a hx => ?_; obtain ⟨ds, n, f, more, w, rfl, ha, hnd, hlen, hw3, hw, hnm, h⟩ := hx
  refine ⟨rfl, ?_⟩
  skip
  skip
  have hh : 2 ≤ halfI w ∧ halfI w ≤ 32 := by unfold halfI; (first | lia | omega)
  refine c_assign hM (fun d => d = .int (halfI w)) ?_ ?_
  · sizeOf_list_dec
    exact ⟨rfl, rfl⟩
  rintro _ rfl
  refine c_any hM ⟨(Nat.zero_le _), fun b hb => ?_⟩
  have hab : a ≠ b := by rintro rfl; exact nn (Eq.trans (Eq.symm hb) ha)
  refine c_for_r hM (n := min 3 (halfI w)) (fun k σ' ls' => ∃ ds' rows, σ' a = some (.dict false ds') ∧ σ' b = some (.list false rows) ∧ rows.length = k ∧ (∀ p ∈ rows, Dat 1 p) ∧ (∀ x, x < more → lookD x ds' = lookD x ds) ∧ Grw ds ds' k ∧ ls' 0 = some (.ref a) ∧ ls' 1 = some (.int n) ∧ ls' 2 = some (.int f) ∧ ls' 3 = some (.int more) ∧ ls' 5 = some (.int (halfI w)) ∧ ls' 6 = some (.ref b)) ?_ (by (first | lia | omega)) (by (first | lia | omega)) ⟨ds, [], by rw [upd_ne hab]; exact ha, upd_self _ _ _, rfl, (fun _ h => ((List.not_mem_nil h).elim)), fun _ _ => rfl, ⟨hnd, fun p hp => .inl hp, Nat.le_refl _⟩, rfl, rfl, rfl, rfl, rfl, rfl⟩ ?_ ?_
  · sizeOf_list_dec
    exact ⟨rfl, rfl⟩
  · rintro k hk σ' ls' ⟨ds', rows, s1, s2, hr1, hr2, hlk, G, l0, l1, l2, l3, l5, l6⟩
    have hG := G.2.2
    refine c_assign hM (fun d => ∃ i, d = .int i) ?_ ?_
    · refine opt_of l2 ?_
      sizeOf_list_dec
      refine opt_of l5 ?_
      sizeOf_list_dec
      refine opt_if (mulFits_right (by (first | lia | omega)) (by (first | lia | omega))) ?_
      sizeOf_list_dec
      exact ⟨rfl, _, rfl⟩
    rintro _ ⟨i, rfl⟩
    refine c_set hM ?_
    sizeOf_list_dec
    refine w_comp_rP hM (n := (halfI w).toNat) (Dat 1) (opt_of l5 ⟨rfl, (congrArg _ (Eq.symm (Int.toNat_of_nonneg (by (first | lia | omega)))))⟩) (by unfold big; (first | lia | omega)) (fun j hj => cwp_e hM _ ?_) fun l hl hP => ?_
    · sizeOf_list_dec
      exact ⟨rfl, dat2 (.int _) (.str _)⟩
    sizeOf_list_dec
    refine opt_of l0 (opt_of l3 ?_)
    sizeOf_list_dec
    refine ⟨a, _, ds', rfl, rfl, s1, by unfold big; (first | lia | omega), ?_⟩
    refine c_expr hM (r := .nil) (opt_of l6 ⟨⟨b, false, _, rfl, by rw [upd_ne (Ne.symm hab)]; exact s2⟩, ?_⟩)
    sizeOf_list_dec
    refine opt_of l3 ?_
    sizeOf_list_dec
    refine ⟨_, by rw [upd_ne (Ne.symm hab)]; exact s2, by rw [hr1]; unfold big; (first | lia | omega), ?_⟩
    refine ⟨_, _, (upd_ne hab).trans (upd_self _ _ _), upd_self _ _ _, by rw [List.length_append, hr1]; rfl, ?_, ?_, G.put (okv hP (by rw [hl]; (first | lia | omega))), l0, l1, l2, l3, l5, l6⟩
    · intro p hp
      rcases List.mem_append.mp hp with hp | hp
      · exact hr2 p hp
      · simp only [List.mem_singleton] at hp; subst hp; exact dat2 (.int _) (.int _)
    · intro x hx
      rw [lookD_put, if_neg (by (first | lia | omega))]; exact hlk x hx
  · rintro σ' ls' ⟨ds', rows, s1, s2, hr1, hr2, hlk, G, l0, l1, l2, l3, l5, l6⟩
    have hG := G.2.2
    refine c_set hM ?_
    sizeOf_list_dec
    refine opt_of l6 ?_
    refine opt_of (a := .tup rows) (by show Option.map _ (seqOf σ' (.ref b)) = _; dsimp only [seqOf]; simp [lstOf, s2]) ?_
    sizeOf_list_dec
    refine opt_of l0 (opt_of l1 ?_)
    refine ⟨a, _, ds', rfl, rfl, s1, by unfold big; (first | lia | omega), ?_⟩
    refine c_ret hM (opt_of l0 ?_)
    have G' := G.put (k := n) (v := blkV sBranch rows) (okv hr2 (by (first | lia | omega)))
    refine h _ _ rows (upd_self _ _ _) (fun x hx hx2 => ?_) ?_ ⟨G'.1, G'.2.1, Nat.le_trans G'.2.2 (by (first | lia | omega))⟩
    · skip
      rw [lookD_put, if_neg hx]; exact hlk x hx2
    · show lookD n (putD n (blkV sBranch rows) ds') = _
      rw [lookD_put, if_pos rfl]
noncomputable def rngS (xs : List V) (Q : Post) (σ : View) : Prop := ∃ a ds top more, xs = [.ref a, .int top, .int more] ∧ σ a = some (.dict false ds) ∧ (keysD ds).Nodup ∧ ds.length ≤ 600 ∧ (∀ k ∈ keysD ds, k < more) ∧ ∀ σ' ds', σ' a = some (.dict false ds') → (∀ x b, lookD x ds = some b → lookD x ds' = some b) → ds.length < ds'.length → Grw ds ds' 4 → Q (.ref a) σ'
theorem ring_ok (Φ : Spec) (hM : SpecMono Φ) (Gc : Nat → V) {xs : List V} {Q : Post} {σ : View} (h : rngS xs Q σ) : xs.length = 3 ∧ swps Φ Gc m_law_ringed (fun σ' _ => Q .none σ') Q σ (argLs xs) := by
  refine Exists.elim h fun a hx => ?_; obtain ⟨ds, top, more, rfl, ha, hnd, hlen, hq0⟩ := hx
  refine ⟨rfl, ?_⟩
  skip
  skip
  have hd : ∀ {x y : V} {k j : Int} {kind : Str} {n : Int}, Dat 0 x → Dat 0 y → OkVal (n, blkV kind [.tup [.int k, x], .tup [.int j, y]]) := fun h1 h2 => okv (fun p hp => by
    simp only [List.mem_cons, List.not_mem_nil, or_false] at hp
    rcases hp with rfl | rfl
    · exact dat2 (.int _) h1
    · exact dat2 (.int _) h2) (by simp)
  have hno : lookD more ds = none := lookD_none.mpr fun hm => by have := hq0.1 _ hm; (first | lia | omega)
  have G0 : Grw ds ds 0 := ⟨hnd, fun p hp => .inl hp, Nat.le_refl _⟩
  refine c_set hM ?_
  sizeOf_list_dec
  refine ⟨a, _, _, rfl, rfl, ha, by unfold big; (first | lia | omega), ?_⟩
  have G1 := G0.put (k := more) (v := blkV (Str.ofString "branch") [.tup [.int (top + 1), .int (more + 1)], .tup [.int (top + 10), .int (more + 2)]]) (hd (.int _) (.int _))
  refine c_set hM ?_
  sizeOf_list_dec
  refine ⟨a, _, _, rfl, rfl, upd_self _ _ _, by have := G1.2.2; unfold big; unfold blkV at this; (first | lia | omega), ?_⟩
  have G2 := G1.put (k := more + 1) (v := blkV (Str.ofString "branch") [.tup [.int (top + 1), .int more], .tup [.int (top + 20), .int (more + 3)]]) (hd (.int _) (.int _))
  refine c_set hM ?_
  sizeOf_list_dec
  refine ⟨a, _, _, rfl, rfl, upd_self _ _ _, by have := G2.2.2; unfold big; unfold blkV at this; (first | lia | omega), ?_⟩
  have G3 := G2.put (k := more + 2) (v := blkV (Str.ofString "leaf") [.tup [.int (top + 10), .str (Str.ofString "v")], .tup [.int (top + 11), .str (Str.ofString "v")]]) (hd (.str _) (.str _))
  refine c_set hM ?_
  sizeOf_list_dec
  refine ⟨a, _, _, rfl, rfl, upd_self _ _ _, by have := G3.2.2; unfold big; unfold blkV at this; (first | lia | omega), ?_⟩
  have G4 := G3.put (k := more + 3) (v := blkV (Str.ofString "leaf") [.tup [.int (top + 20), .str (Str.ofString "v")], .tup [.int (top + 21), .str (Str.ofString "v")]]) (hd (.str _) (.str _))
  refine c_ret hM ?_
  sizeOf_list_dec
  refine hq0.2 _ _ (upd_self _ _ _) (fun x b hx => ?_) ?_ G4
  · have hx' : x < more := hq0.1 x (List.mem_map.mpr ⟨_, lookD_some_mem hx, rfl⟩)
    rw [lookD_put, if_neg (by (first | lia | omega)), lookD_put, if_neg (by (first | lia | omega)), lookD_put, if_neg (by (first | lia | omega)), lookD_put, if_neg (by (first | lia | omega))]
    exact hx
  · refine Nat.lt_of_lt_of_le ?_ (Nat.le_trans len_put_ge (Nat.le_trans len_put_ge len_put_ge))
    simp only [put_new hno, List.length_append]
    exact Nat.lt_succ_self _
end

section

open PySem PySem.W PySem.Calls PyProof.Rows
set_option maxRecDepth 100000
set_option linter.unusedSimpArgs false
set_option linter.unusedVariables false
theorem best_max (f : Nat → Int) : ∀ n, argBest (fun i j => decide (f i > f j)) n ≤ n ∧ ∀ i, i ≤ n → f i ≤ f (argBest (fun i j => decide (f i > f j)) n)
  | 0 => ⟨Nat.le_refl _, fun i hi => by rw [show i = 0 by (first | lia | omega)]; exact Int.le_refl _⟩
  | n + 1 => by
    obtain ⟨h1, h2⟩ := best_max f n
    dsimp only [argBest]
    by_cases q : f (n + 1) > f (argBest (fun i j => decide (f i > f j)) n)
    · rw [if_pos (decide_eq_true q)]
      refine ⟨Nat.le_refl _, fun i hi => ?_⟩
      by_cases qi : i = n + 1
      · subst qi; exact Int.le_refl _
      · have := h2 i (by lia); lia
    · rw [if_neg (by simpa using q)]
      refine ⟨by solve_by_elim (maxDepth := 3) [Nat.le_of_lt, Nat.le_trans, Nat.lt_of_lt_of_le, Nat.lt_of_le_of_lt, n1, n2, n5, n6], fun i hi => ?_⟩
      by_cases qi : i = n + 1
      · subst qi; lia
      · exact h2 i (by lia)
theorem maxV_ge {ks : List Int} {k : Int} (h : k ∈ ks) : k ≤ maxV ks := by
  refine Exists.elim (List.mem_iff_getElem.mp h) fun i hx => ?_; obtain ⟨hi, rfl⟩ := hx
  have := (best_max (fun i => ks.getD i 0) (ks.length - 1)).2 i (by (first | lia | omega))
  skip
  rw [List.getD_eq_getElem?_getD, List.getElem?_eq_getElem hi] at this
  exact this
theorem ints_map : ∀ {ks : List Int}, ints? (ks.map .int) = some ks
  | [] => rfl
  | k :: ks => by show (ints? (ks.map .int)).map (k :: ·) = _; rw [ints_map]; rfl
noncomputable def ResS (w : Int) (v : V) : Prop := v = .none ∨ ∃ es', v = .dct es' ∧ OkD es' ∧ SoundR es' w false
noncomputable def TopOk (ps : List V) (top : Int) : Prop := ∀ A lp B, ps = A ++ lp :: B → keyOf lp ≠ top → ∃ y B', B = y :: B' ∧ keyOf y ≤ keyOf lp + 3 ∧ keyOf y ≤ top
structure SpC (es : Dct) (ps : List V) (w n top c : Int) : Prop where
  T : Tree es ps w
  w3 : 3 ≤ w
  w64 : w ≤ 64
  len : es.length ≤ 500
  mem : (lookD n es).isSome = true
  c0 : 0 ≤ c
  top : TopOk ps top
theorem okd_tree {es : Dct} {ps : List V} {w : Int} (T : Tree es ps w) (hw3 : 3 ≤ w) (hw : w ≤ 64) : OkD es := by
  refine ⟨T.nd, fun p hp => ⟨(T.dat p hp).mono (by decide), fun k ps' e => ?_⟩, T.len⟩
  obtain ⟨kind, r, e2, _, hl, _⟩ := fit_inv hw3 (T.fit p hp)
  simp only [e2] at e; unfold blkV at e; simp at e; refine e.2 ▸ ?_; unfold big; (first | lia | omega)
theorem okd_put {es : Dct} {n : Int} {v : V} (h : OkD es) (hl : es.length ≤ 500) (hv : OkVal (n, v)) : OkD (putD n v es) := by
  refine ⟨nodup_put h.1, fun p hp => ?_, by have := len_put_le (k := n) (v := v) (es := es); (first | lia | omega)⟩
  rcases mem_put hp with rfl | hp
  · exact hv
  · exact h.2.1 p hp
noncomputable def tspS (xs : List V) (Q : Post) (σ : View) : Prop := ∃ es ps n way top w c, xs = [.dct es, .int n, .int way, .int top, .int w, .int c] ∧ SpC es ps w n top c ∧ 9 ≤ way ∧ way ≤ 14 ∧ ∀ v σ', ResS w v → Q v σ'
theorem tsp_ok (Φ : Spec) (hM : SpecMono Φ) (Gc : Nat → V) (hD : ∀ xs Q σ, dprS xs Q σ → Φ 18 xs Q σ) (hR : ∀ xs Q σ, rngS xs Q σ → Φ 19 xs Q σ) {xs : List V} {Q : Post} {σ : View} (h : tspS xs Q σ) : xs.length = 6 ∧ swps Φ Gc m_law_tree_spoilt (fun σ' _ => Q .none σ') Q σ (argLs xs) := by
  obtain ⟨es, ps, n, way, top, w, c, rfl, ⟨T, hw3, hw, hlen, hmem, hc0, htop⟩, w9, w14, h⟩ := h
  refine ⟨rfl, ?_⟩
  obtain ⟨b, hb⟩ := Option.isSome_iff_exists.mp hmem
  obtain ⟨kind, r, rfl, hk, hrl, hgood, hris, hhalf, htwo⟩ := fit_inv hw3 (T.fit _ (lookD_some_mem hb))
  have hOk := okd_tree T hw3 hw
  unfold m_law_tree_spoilt ss
  simp only [List.foldr]
  refine c_any hM ?_
  sizeOf_list_dec
  refine p_dict_d.mpr fun a ha => ?_
  refine c_assign hM (fun d => d = .str kind) ?_ ?_
  · sizeOf_list_dec
    refine opt_of hb ?_
    exact opt_of (r_it_t0 (σ := σ)) ⟨rfl, rfl⟩
  rintro _ rfl
  refine c_assign hM (fun d => d = .tup r) ?_ ?_
  · sizeOf_list_dec
    refine opt_of hb ?_
    exact opt_of (a := .tup r) rfl ⟨rfl, rfl⟩
  rintro _ rfl
  have hne : 0 < (keysD es).length := by
    have := List.length_pos_of_mem (lookD_some_mem hb); unfold keysD; rw [List.length_map]; exact this
  refine c_assign hM (fun d => d = .int (maxV (keysD es) + 1)) ?_ ?_
  · sizeOf_list_dec
    refine opt_of (a := .lst ((keysD es).map .int)) (by show some (V.lst (es.map fun p => V.int p.1)) = _; unfold keysD; rw [List.map_map]; rfl) ?_
    refine opt_of (a := .int (maxV (keysD es))) (by show (ints? ((keysD es).map .int)).bind _ = _; rw [ints_map]; exact if_pos hne) ?_
    sizeOf_list_dec
    exact ⟨rfl, rfl⟩
  rintro _ rfl
  have hlt : ∀ k ∈ keysD es, k < maxV (keysD es) + 1 := fun k hk => by have := maxV_ge hk; (first | lia | omega)
  generalize maxV (keysD es) + 1 = M at hlt
  have hkM : ∀ {x : Int} {b : V}, lookD x es = some b → x < M := fun hx => hlt _ (List.mem_map.mpr ⟨_, lookD_some_mem hx, rfl⟩)
  have hMpos : 0 < M := by
    have := hkM hb; have := T.pos n (List.mem_map.mpr ⟨_, lookD_some_mem hb, rfl⟩); (first | lia | omega)
  have hgrw : ∀ {ds' : Dct}, Grw es ds' 4 → OkD ds' := fun G => ⟨G.1, fun p hp => (G.2.1 p hp).elim (fun hp => hOk.2.1 p hp) id, by have := G.2.2; (first | lia | omega)⟩
  by_cases q9 : way = 9
  · refine ctwp_t hM ?_
    sizeOf_list_dec
    rw [decide_eq_true q9]
    refine c_expr hM ?_
    sizeOf_list_dec
    refine ⟨⟨es, by simp [dicOf]⟩, es, _, upd_self _ _ _, hb, ?_⟩
    rw [upd_upd]
    refine cut_freezeD rfl (upd_self _ _ _) ?_
    refine c_ret hM ?_
    sizeOf_list_dec
    refine h _ _ (.inr ⟨_, rfl, ⟨nodup_drop T.nd, fun p hp => hOk.2.1 p (mem_drop hp), ?_⟩, T.gone hb⟩)
    have := len_drop_le (k := n) (es := es); (first | lia | omega)
  refine c_guard hM ?_ ?_
  · sizeOf_list_dec
    exact ⟨rfl, decide_eq_false q9⟩
  by_cases q10 : way = 10
  · refine ctwp_t hM ?_
    sizeOf_list_dec
    rw [decide_eq_true q10]
    refine c_assign hM (fun d => d = blkV sLeaf [.tup [.int (top + 1), .str (Str.ofString "v")], .tup [.int (top + 2), .str (Str.ofString "v")], .tup [.int (top + 3), .str (Str.ofString "v")]]) ?_ ?_
    · sizeOf_list_dec
      exact ⟨rfl, rfl⟩
    rintro _ rfl
    have dlf : OkVal ((0 : Int), blkV sLeaf [.tup [.int (top + 1), .str (Str.ofString "v")], .tup [.int (top + 2), .str (Str.ofString "v")], .tup [.int (top + 3), .str (Str.ofString "v")]]) := okv (fun p hp => by
      simp only [List.mem_cons, List.not_mem_nil, or_false] at hp
      rcases hp with rfl | rfl | rfl
      · exact dat2 (.int _) (.str _)
      · exact dat2 (.int _) (.str _)
      · exact dat2 (.int _) (.str _)) (by simp)
    obtain ⟨v, hv, hvo⟩ : ∃ v, itemV (σ.upd a (.dict false es)) (.lst [blkV sLeaf [.tup [.int (top + 1), .str (Str.ofString "v")], .tup [.int (top + 2), .str (Str.ofString "v")], .tup [.int (top + 3), .str (Str.ofString "v")]], .none, .int 7, .tup [.str (Str.ofString "leaf"), .tup []]]) (.int (c / 3 % 4)) = some v ∧ ∀ j : Int, OkVal (j, v) := by
      have hc : c / 3 % 4 = 0 ∨ c / 3 % 4 = 1 ∨ c / 3 % 4 = 2 ∨ c / 3 % 4 = 3 := by (first | lia | omega)
      rcases hc with e | e | e | e <;> rw [e]
      · exact ⟨_, rfl, fun j => dlf⟩
      · exact ⟨_, rfl, fun j => ⟨.none, fun k ps e => nomatch e⟩⟩
      · exact ⟨_, rfl, fun j => ⟨.int _, fun k ps e => nomatch e⟩⟩
      · exact ⟨_, rfl, fun j => okv (kind := Str.ofString "leaf") (fun p hp => nomatch hp) (by simp)⟩
    obtain ⟨j, hj, hjn⟩ : ∃ j, itemV (σ.upd a (.dict false es)) (.lst [.int M, .int (-1), .int (M + c)]) (.int (c % 3)) = some (.int j) ∧ lookD j es = none := by
      have hc : c % 3 = 0 ∨ c % 3 = 1 ∨ c % 3 = 2 := by (first | lia | omega)
      rcases hc with e | e | e <;> rw [e]
      · exact ⟨_, rfl, lookD_none.mpr fun hm => by have := hlt _ hm; (first | lia | omega)⟩
      · exact ⟨_, rfl, lookD_none.mpr fun hm => by have := T.pos _ hm; (first | lia | omega)⟩
      · exact ⟨_, rfl, lookD_none.mpr fun hm => by have := hlt _ hm; (first | lia | omega)⟩
    refine c_set hM ?_
    sizeOf_list_dec
    refine opt_of hv ?_
    sizeOf_list_dec
    refine opt_of hj ?_
    refine ⟨a, _, es, rfl, rfl, upd_self _ _ _, by unfold big; (first | lia | omega), ?_⟩
    rw [upd_upd]
    refine cut_freezeD rfl (upd_self _ _ _) ?_
    refine c_ret hM ?_
    sizeOf_list_dec
    refine h _ _ (.inr ⟨_, rfl, okd_put hOk hlen (hvo j), T.more (fun x b hx => ?_) ?_⟩)
    · rw [lookD_put, if_neg (fun e => by rw [e, hjn] at hx; cases hx)]; exact hx
    · rw [put_new hjn, List.length_append]; simp
  refine c_guard hM ?_ ?_
  · sizeOf_list_dec
    exact ⟨rfl, decide_eq_false q10⟩
  by_cases q14 : way = 14
  · refine c_ite_ret hM ?_ ?_
    · sizeOf_list_dec
      exact ⟨rfl, decide_eq_true q14⟩
    refine w_frz.mpr (cwp_e hM _ ?_)
    sizeOf_list_dec
    exact hR _ _ _ ⟨a, es, top, M, rfl, upd_self _ _ _, T.nd, by (first | lia | omega), hlt, fun σ' ds' s1 hx hl G => ⟨a, rfl, .inr ⟨ds', s1, h _ _ (.inr ⟨ds', rfl, hgrw G, T.more hx (by (first | lia | omega))⟩)⟩⟩⟩
  refine c_guard hM ?_ ?_
  · sizeOf_list_dec
    exact ⟨rfl, decide_eq_false q14⟩
  by_cases qb : kind = sBranch
  · refine c_ite_ret hM ?_ (h _ _ (.inl rfl))
    sizeOf_list_dec
    rw [show decide (kind = Str.ofString "branch") = true from decide_eq_true qb]
    exact ⟨rfl, rfl⟩
  by_cases q0 : n = 0
  · refine c_ite_ret hM ?_ (h _ _ (.inl rfl))
    sizeOf_list_dec
    rw [show decide (kind = Str.ofString "branch") = false from decide_eq_false qb]
    exact ⟨rfl, decide_eq_true q0⟩
  refine c_guard hM ?_ ?_
  · sizeOf_list_dec
    rw [show decide (kind = Str.ofString "branch") = false from decide_eq_false qb]
    exact ⟨rfl, decide_eq_false q0⟩
  have hkl : kind = sLeaf := hk.resolve_right qb
  subst hkl
  have hlf : isLf (blk es n) = true := by rw [blk_some hb]; exact br_blkV.2
  have h2 := htwo (.inl q0)
  by_cases q11 : way = 11
  · refine c_ite_ret hM ?_ ?_
    · sizeOf_list_dec
      exact ⟨rfl, decide_eq_true q11⟩
    obtain ⟨p, r', rfl⟩ : ∃ p r', r = p :: r' := by
      cases r with
      | nil => simp at h2
      | cons p r' => exact ⟨p, r', rfl⟩
    obtain ⟨k, b, rfl⟩ := pair_key (hgood p (.head _))
    refine w_frz.mpr (cwp_e hM _ ?_)
    sizeOf_list_dec
    refine opt_of (r_it_t0 (σ := σ)) ?_
    refine opt_of (r_it_t0 (σ := σ)) ?_
    sizeOf_list_dec
    refine hD _ _ _ ⟨a, es, n, k, M, w, rfl, upd_self _ _ _, T.nd, by (first | lia | omega), hw3, hw, hkM hb, fun σ' ds' r s1 hx hr G => ⟨a, rfl, .inr ⟨ds', s1, h _ _ (.inr ⟨ds', rfl, hgrw G, T.deeper hw3 q0 hlf (fun x hxn hx2 => ?_) ?_⟩)⟩⟩⟩
    · have hl := hx2.elim look_br look_lf
      refine blk_some ?_
      rw [hx x hxn (hkM hl)]; exact hl
    · rw [blk_some hr]; exact br_blkV.1
  refine c_guard hM ?_ ?_
  · sizeOf_list_dec
    exact ⟨rfl, decide_eq_false q11⟩
  obtain ⟨m, x, rfl⟩ : ∃ m x, r = m ++ [x] := by
    have hr : r ≠ [] := fun e => by rw [e] at h2; simp at h2
    exact ⟨r.dropLast, r.getLast hr, (List.dropLast_concat_getLast hr).symm⟩
  obtain ⟨kl, bl, rfl⟩ := pair_key (hgood x (by simp))
  by_cases qt : kl = top
  · refine c_ite_ret hM ?_ (h _ _ (.inl rfl))
    sizeOf_list_dec
    refine opt_of (it_last (σ := σ) (xs := m)) ?_
    refine opt_of (r_it_t0 (σ := σ)) ?_
    sizeOf_list_dec
    exact ⟨rfl, decide_eq_true qt⟩
  refine c_guard hM ?_ ?_
  · sizeOf_list_dec
    refine opt_of (it_last (σ := σ) (xs := m)) ?_
    refine opt_of (r_it_t0 (σ := σ)) ?_
    sizeOf_list_dec
    exact ⟨rfl, decide_eq_false qt⟩
  refine c_if_assign hM (fun d => ∃ t, d = .int t ∧ (t = kl + 3 ∨ t = top)) ?_ ?_
  · sizeOf_list_dec
    refine ⟨rfl, ?_⟩
    split
    · sizeOf_list_dec
      refine opt_of (it_last (σ := σ) (xs := m)) ?_
      refine opt_of (r_it_t0 (σ := σ)) ?_
      sizeOf_list_dec
      exact ⟨rfl, _, rfl, .inl rfl⟩
    · exact ⟨_, rfl, .inr rfl⟩
  rintro _ ⟨t, rfl, ht⟩
  refine c_set hM ?_
  sizeOf_list_dec
  rw [slice_init]
  refine opt_of (if_pos (e := none) (show m.length + 1 ≤ big by simp at hrl; unfold big; (first | lia | omega))) ?_
  sizeOf_list_dec
  refine ⟨a, _, es, rfl, rfl, upd_self _ _ _, by unfold big; (first | lia | omega), ?_⟩
  skip
  refine cut_freezeD rfl (upd_self _ _ _) ?_
  refine c_ret hM ?_
  sizeOf_list_dec
  refine h _ _ (.inr ⟨_, rfl, okd_put hOk hlen (okv (kind := Str.ofString "leaf") ?_ ?_), T.leaf (np := .tup [.int t, .str (Str.ofString "v")]) hb fun A B e => ?_⟩)
  · intro p hp
    have hdr : ∀ p ∈ m, Dat 2 p := fun p hp => by
      have := T.dat _ (lookD_some_mem hb)
      cases this with
      | tup h =>
        have := h (.tup (m ++ [.tup [.int kl, bl]])) (by simp)
        cases this with
        | tup h => exact h p (List.mem_append_left _ hp)
    rcases List.mem_append.mp hp with hp | hp
    · refine Exists.elim (pair_key (hgood p (List.mem_append_left _ hp))) fun k hx => ?_; obtain ⟨b, rfl⟩ := hx
      refine dat2 (.int _) ?_
      have hv := (Bool.and_eq_true_iff.mp (hgood _ (List.mem_append_left _ hp))).2
      rw [if_pos rfl] at hv
      unfold valueF at hv
      split at hv
      · exact .str _
      · cases hv
    · simp only [List.mem_singleton] at hp; subst hp; exact dat2 (.int _) (.str _)
  · simp at hrl ⊢; (first | lia | omega)
  · refine Exists.elim (htop A _ B e qt) fun y hx => ?_; obtain ⟨B', rfl, hq0⟩ := hx
    refine ⟨y, B', rfl, ?_⟩
    show keyOf y ≤ t
    rcases ht with rfl | rfl
    · exact hq0.1
    · exact hq0.2
end

section

open PySem PySem.W PySem.Calls PyProof.Rows
set_option maxRecDepth 100000
set_option linter.unusedSimpArgs false
set_option linter.unusedVariables false
noncomputable def awS (xs : List V) (Q : Post) (σ : View) : Prop := ∃ es ps w0 w, xs = [.dct es, .int w] ∧ Tree es ps w0 ∧ 3 ≤ w0 ∧ Q (.bool (wideF es w)) σ
theorem wide_ok (Φ : Spec) (hM : SpecMono Φ) (Gc : Nat → V) {xs : List V} {Q : Post} {σ : View} (h : awS xs Q σ) : xs.length = 2 ∧ swps Φ Gc m_law_as_wide (fun σ' _ => Q .none σ') Q σ (argLs xs) := by
  obtain ⟨es, ps, w0, w, rfl, T, hw3, h⟩ := h
  refine ⟨rfl, ?_⟩
  skip
  skip
  refine c_for_l hM (xs := es.map fun p => V.int p.1) (fun k σ' ls' => σ' = σ ∧ ls' 0 = some (.dct es) ∧ ls' 1 = some (.int w) ∧ ∀ p ∈ es.take k, (decide (p.1 = 0) || decide (halfI w ≤ (rowV p.2).length)) = true) ?_ ⟨rfl, rfl, rfl, by simp⟩ ?_ ?_
  · sizeOf_list_dec
    exact opt_of (a := .lst (es.map fun p => V.int p.1)) rfl ⟨rfl, .inl rfl⟩
  · rintro k v hv σ' ls' ⟨rfl, l0, l1, hk⟩
    rw [List.getElem?_map, Option.map_eq_some_iff] at hv
    obtain ⟨p, hp, rfl⟩ := hv
    have hpm : p ∈ es := List.mem_iff_getElem?.mpr ⟨k, hp⟩
    have hlk : lookD p.1 es = some p.2 := mem_lookD T.nd hpm
    have hpos := T.pos p.1 (List.mem_map.mpr ⟨p, hpm, rfl⟩)
    obtain ⟨kind, r, e, _⟩ := fit_inv hw3 (T.fit p hpm)
    rw [e] at hlk
    have hkeep : (decide (p.1 = 0) || decide (halfI w ≤ (rowV p.2).length)) = true → σ' = σ' ∧ ls' 0 = some (.dct es) ∧ ls' 1 = some (.int w) ∧ ∀ p ∈ es.take (k + 1), (decide (p.1 = 0) || decide (halfI w ≤ (rowV p.2).length)) = true := fun hq => ⟨rfl, l0, l1, fun q hq2 => by
      replace hq2 := List.take_add_one ▸ hq2; replace hq2 := hp ▸ hq2
      rcases List.mem_append.mp hq2 with hq2 | hq2
      · exact hk q hq2
      · replace hq2 := List.mem_singleton.mp hq2; cases hq2; exact hq⟩
    refine ctwp_t hM ?_
    sizeOf_list_dec
    by_cases q0 : p.1 = 0
    · rw [decide_eq_false (show ¬ 0 < p.1 by (first | lia | omega))]
      exact hkeep (by rw [decide_eq_true q0]; rfl)
    · rw [decide_eq_true (show 0 < p.1 by (first | lia | omega))]
      sizeOf_list_dec
      refine opt_of l0 ?_
      sizeOf_list_dec
      refine opt_of hlk ?_
      refine opt_of (a := .tup r) rfl ?_
      sizeOf_list_dec
      refine opt_of l1 ?_
      sizeOf_list_dec
      have er : (rowV p.2).length = r.length := by rw [e]; rfl
      by_cases q : (r.length : Int) < (w + 1) / 2
      · rw [decide_eq_true q]
        have : wideF es w = false := by
          cases hw : wideF es w with
          | false => rfl
          | true =>
            have := List.all_eq_true.mp hw p hpm
            rw [er, decide_eq_false q0, Bool.false_or] at this
            have := of_decide_eq_true this
            unfold halfI at this; (first | lia | omega)
        rw [this] at h
        exact h
      · rw [decide_eq_false q]
        exact hkeep (by rw [er, decide_eq_true (show halfI w ≤ (r.length : Int) by unfold halfI; (first | lia | omega)), Bool.or_true])
  · rintro σ' ls' ⟨rfl, l0, l1, hk⟩
    rw [List.length_map, List.take_length] at hk
    have : wideF es w = true := List.all_eq_true.mpr hk
    rw [this] at h
    exact c_ret hM h
noncomputable def spS (xs : List V) (Q : Post) (σ : View) : Prop := ∃ es ps n way w top c, xs = [.dct es, .int n, .int way, .int w, .int top, .int c] ∧ SpC es ps w n top c ∧ 0 ≤ way ∧ way ≤ 14 ∧ ∀ v σ', ResS w v → Q v σ'
theorem sp_ok (Φ : Spec) (hM : SpecMono Φ) (Gc : Nat → V) (hB : ∀ xs Q σ, bspS xs Q σ → Φ 17 xs Q σ) (hT : ∀ xs Q σ, tspS xs Q σ → Φ 20 xs Q σ) {xs : List V} {Q : Post} {σ : View} (h : spS xs Q σ) : xs.length = 6 ∧ swps Φ Gc m_law_spoilt (fun σ' _ => Q .none σ') Q σ (argLs xs) := by
  refine Exists.elim h fun es hx => ?_; obtain ⟨ps, n, way, w, top, c, rfl, hq0⟩ := hx
  refine ⟨rfl, ?_⟩
  skip
  skip
  by_cases q : 8 < way
  · refine c_ite_ret hM ?_ ?_
    · sizeOf_list_dec
      exact ⟨rfl, decide_eq_true q⟩
    sizeOf_list_dec
    exact hT _ _ _ ⟨es, ps, n, way, top, w, c, rfl, hq0.1, by (first | lia | omega), hq0.2.2.1, hq0.2.2.2⟩
  refine c_guard hM ?_ ?_
  · sizeOf_list_dec
    exact ⟨rfl, decide_eq_false q⟩
  obtain ⟨T, hw3, hw, hlen, hmem, hc0, htop⟩ := hq0.1
  refine Exists.elim (Option.isSome_iff_exists.mp hmem) ?_; rintro b hb
  obtain ⟨kind, r, rfl, hk, hrl, hgood, hris, hhalf, htwo⟩ := fit_inv hw3 (T.fit _ (lookD_some_mem hb))
  have hOk := okd_tree T hw3 hw
  have hdr : ∀ p ∈ r, Dat 1 p := fun p hp => by
    refine Exists.elim (pair_key (hgood p hp)) fun k hx => ?_; obtain ⟨b, rfl⟩ := hx
    refine dat2 (.int _) ?_
    have hv := (Bool.and_eq_true_iff.mp (hgood _ hp)).2
    split at hv
    · unfold valueF at hv
      split at hv
      · exact .str _
      · cases hv
    · unfold numF at hv
      split at hv
      · exact .int _
      · cases hv
  refine c_assign hM (SpB kind r (decide (n = 0)) w) ?_ ?_
  · sizeOf_list_dec
    refine opt_of hb ?_
    sizeOf_list_dec
    exact hB _ _ _ ⟨kind, r, decide (n = 0), way, w, c, rfl, hk, hw3, hw, hrl, fun p hp => ⟨hgood p hp, hdr p hp⟩, hris, fun e => hhalf (of_decide_eq_false e), fun e => htwo (e.imp of_decide_eq_false id), hq0.2.1, by (first | lia | omega), fun v hv => ⟨rfl, hv⟩⟩
  intro v hv
  have fin : OkVal (n, v) → SoundR (putD n v es) w false → swps Φ Gc (.cons (.assign 7 (.op .dict (Mine.es [(.var 0)]))) (.cons (.setSub (.var 7) (.var 1) (.var 6)) (.cons (.freeze 7) (.cons (.ret (.var 7)) .nil)))) (fun σ' _ => Q .none σ') Q σ ((argLs [.dct es, .int n, .int way, .int w, .int top, .int c]).set 6 v) := fun h1 h2 => by
    refine c_any hM ?_
    sizeOf_list_dec
    refine p_dict_d.mpr fun a ha => ?_
    refine c_set hM ?_
    sizeOf_list_dec
    refine ⟨a, _, es, rfl, rfl, upd_self _ _ _, by unfold big; (first | lia | omega), ?_⟩
    skip
    refine cut_freezeD rfl (upd_self _ _ _) ?_
    refine c_ret hM ?_
    sizeOf_list_dec
    exact hq0.2.2.2 _ _ (.inr ⟨_, rfl, okd_put hOk hlen h1, h2⟩)
  have hnn : plainV v = true → notNone v = true → swps Φ Gc (.cons (.assign 7 (.op .dict (Mine.es [(.var 0)]))) (.cons (.setSub (.var 7) (.var 1) (.var 6)) (.cons (.freeze 7) (.cons (.ret (.var 7)) .nil)))) (fun σ' _ => Q .none σ') Q σ ((argLs [.dct es, .int n, .int way, .int w, .int top, .int c]).set 6 v) → swps Φ Gc (.cons (.ite (.op .is (Mine.es [(.var 6), (.lit .none)])) (ss [.ret (.lit .none)]) (ss [])) (.cons (.assign 7 (.op .dict (Mine.es [(.var 0)]))) (.cons (.setSub (.var 7) (.var 1) (.var 6)) (.cons (.freeze 7) (.cons (.ret (.var 7)) .nil))))) (fun σ' _ => Q .none σ') Q σ ((argLs [.dct es, .int n, .int way, .int w, .int top, .int c]).set 6 v) := fun h1 h2 k => by
    refine c_guard hM ?_ k
    sizeOf_list_dec
    cases v <;> first | exact ⟨rfl, rfl⟩ | (cases h2; done) | (cases h1; done)
  cases hv with
  | none =>
    refine c_ite_ret hM ?_ (hq0.2.2.2 _ _ (.inl rfl))
    sizeOf_list_dec
    exact ⟨rfl, rfl⟩
  | unfit hd hl hf =>
    by_cases qn : v = .none
    · subst qn
      refine c_ite_ret hM ?_ (hq0.2.2.2 _ _ (.inl rfl))
      sizeOf_list_dec
      exact ⟨rfl, rfl⟩
    · refine hnn hd.plain ?_ (fin ⟨hd.mono (by decide), fun k ps e => by have := hl k ps e; unfold big; (first | lia | omega)⟩ (sp_unfit (hf n rfl)))
      cases hq : notNone v with
      | true => rfl
      | false => exact absurd (none_of hq) qn
  | key e hkk h1 h2 hd =>
    subst e
    refine hnn rfl rfl (fin (okv (fun p hp => ?_) ?_) (T.key hb (hkk.imp of_decide_eq_false id) h1 h2))
    · rcases List.mem_cons.mp hp with rfl | hp
      · exact hd
      · exact hdr p (.tail _ hp)
    · simp at hrl ⊢; (first | lia | omega)
  | twice hn hl hd =>
    exact hnn rfl rfl (fin (okv hd hl) (sp_twice hn))
end

section

open PySem PySem.W PySem.Calls PyProof.Rows
set_option maxRecDepth 100000
set_option linter.unusedSimpArgs false
set_option linter.unusedVariables false
noncomputable abbrev Spec1 := List V → Post → View → Prop
noncomputable def MonoS (S : Spec1) : Prop := ∀ xs Q Q' σ, S xs Q σ → (∀ d σ', Q d σ' → Q' d σ') → S xs Q' σ
noncomputable def nthS : List Spec1 → Nat → Spec1
  | [], _ => fun _ _ _ => False
  | s :: l, n => match n with
    | 0 => s
    | n + 1 => nthS l n
noncomputable def AllS : List Spec1 → Prop
  | [] => True
  | s :: l => MonoS s ∧ AllS l
theorem nthS_mono : ∀ (l : List Spec1), AllS l → ∀ n, MonoS (nthS l n)
  | [], _, _ => fun _ _ _ _ h _ => h.elim
  | _ :: _, h, 0 => h.1
  | _ :: l, h, n + 1 => nthS_mono l h.2 n
theorem halfS_mono : MonoS halfS := fun xs Q Q' σ h k => by refine Exists.elim h ?_; rintro w hq0; exact ⟨w, hq0.1, k _ _ hq0.2⟩
theorem fitS_mono : MonoS fitS := fun xs Q Q' σ h k => by refine Exists.elim h fun a hx => ?_; obtain ⟨b, w, hq0⟩ := hx; exact ⟨a, b, w, hq0.1, hq0.2.1, k _ _ hq0.2.2⟩
theorem belS_mono : MonoS belS := fun xs Q Q' σ h k => by refine Exists.elim h fun a hx => ?_; obtain ⟨b, hq0⟩ := hx; exact ⟨a, b, hq0.1, hq0.2.1, hq0.2.2.1, k _ _ hq0.2.2.2⟩
theorem pofS_mono : MonoS pofS := fun xs Q Q' σ h k => by refine Exists.elim h fun a hx => ?_; obtain ⟨b, hq0⟩ := hx; exact ⟨a, b, hq0.1, hq0.2.1, hq0.2.2.1, k _ _ hq0.2.2.2⟩
theorem levS_mono : MonoS levS := fun xs Q Q' σ h k => by refine Exists.elim h fun a hx => ?_; obtain ⟨b, c, hq0⟩ := hx; exact ⟨a, b, c, hq0.1, hq0.2.1, hq0.2.2.1, hq0.2.2.2.1, hq0.2.2.2.2.1, hq0.2.2.2.2.2.1, hq0.2.2.2.2.2.2.1, hq0.2.2.2.2.2.2.2.1, k _ _ hq0.2.2.2.2.2.2.2.2⟩
theorem sndS_mono : MonoS sndS := fun xs Q Q' σ h k => by refine Exists.elim h fun a hx => ?_; obtain ⟨b, c, hq0⟩ := hx; exact ⟨a, b, c, hq0.1, hq0.2.1, hq0.2.2.1, hq0.2.2.2.1, hq0.2.2.2.2.1, k _ _ hq0.2.2.2.2.2⟩
theorem widS_mono : MonoS widS := fun xs Q Q' σ h k => by refine Exists.elim h ?_; rintro c hq0; exact ⟨c, hq0.1, fun w h3 h4 => k _ _ (hq0.2 w h3 h4)⟩
theorem lvlS_mono : MonoS lvlS := fun xs Q Q' σ h k => by refine Exists.elim h fun a hx => ?_; obtain ⟨b, c, hq0⟩ := hx; exact ⟨a, b, c, hq0.1, hq0.2.1, hq0.2.2.1, hq0.2.2.2.1, hq0.2.2.2.2.1, fun rs x y z => k _ _ (hq0.2.2.2.2.2 rs x y z)⟩
theorem tbyS_mono : MonoS tbyS := fun xs Q Q' σ h k => by refine Exists.elim h fun a hx => ?_; obtain ⟨b, c, hq0⟩ := hx; exact ⟨a, b, c, hq0.1, hq0.2.1, hq0.2.2.1, hq0.2.2.2.1, hq0.2.2.2.2.1, hq0.2.2.2.2.2.1, hq0.2.2.2.2.2.2.1, fun e x y z => k _ _ (hq0.2.2.2.2.2.2.2 e x y z)⟩
theorem pspS_mono : MonoS pspS := fun xs Q Q' σ h k => by refine Exists.elim h fun a hx => ?_; obtain ⟨b, c, hq0⟩ := hx; exact ⟨a, b, c, hq0.1, hq0.2.1, hq0.2.2.1, hq0.2.2.2.1, fun p x y => k _ _ (hq0.2.2.2.2 p x y)⟩
theorem bspS_mono : MonoS bspS := fun xs Q Q' σ h k => by refine Exists.elim h fun a hx => ?_; obtain ⟨b, c, d, e, f, hq0⟩ := hx; exact ⟨a, b, c, d, e, f, hq0.1, hq0.2.1, hq0.2.2.1, hq0.2.2.2.1, hq0.2.2.2.2.1, hq0.2.2.2.2.2.1, hq0.2.2.2.2.2.2.1, hq0.2.2.2.2.2.2.2.1, hq0.2.2.2.2.2.2.2.2.1, hq0.2.2.2.2.2.2.2.2.2.1, hq0.2.2.2.2.2.2.2.2.2.2.1, fun v x => k _ _ (hq0.2.2.2.2.2.2.2.2.2.2.2 v x)⟩
theorem dprS_mono : MonoS dprS := fun xs Q Q' σ h k => by refine Exists.elim h fun a hx => ?_; obtain ⟨b, c, d, e, f, hq0⟩ := hx; exact ⟨a, b, c, d, e, f, hq0.1, hq0.2.1, hq0.2.2.1, hq0.2.2.2.1, hq0.2.2.2.2.1, hq0.2.2.2.2.2.1, hq0.2.2.2.2.2.2.1, fun s t r x y z w => k _ _ (hq0.2.2.2.2.2.2.2 s t r x y z w)⟩
theorem rngS_mono : MonoS rngS := fun xs Q Q' σ h k => by refine Exists.elim h fun a hx => ?_; obtain ⟨b, c, d, hq0⟩ := hx; exact ⟨a, b, c, d, hq0.1, hq0.2.1, hq0.2.2.1, hq0.2.2.2.1, hq0.2.2.2.2.1, fun s t x y z w => k _ _ (hq0.2.2.2.2.2 s t x y z w)⟩
theorem tspS_mono : MonoS tspS := fun xs Q Q' σ h k => by refine Exists.elim h fun a hx => ?_; obtain ⟨b, c, d, e, f, g, hq0⟩ := hx; exact ⟨a, b, c, d, e, f, g, hq0.1, hq0.2.1, hq0.2.2.1, hq0.2.2.2.1, fun v s x => k _ _ (hq0.2.2.2.2 v s x)⟩
theorem awS_mono : MonoS awS := fun xs Q Q' σ h k => by refine Exists.elim h fun a hx => ?_; obtain ⟨b, c, d, hq0⟩ := hx; exact ⟨a, b, c, d, hq0.1, hq0.2.1, hq0.2.2.1, k _ _ hq0.2.2.2⟩
theorem spS_mono : MonoS spS := fun xs Q Q' σ h k => by refine Exists.elim h fun a hx => ?_; obtain ⟨b, c, d, e, f, g, hq0⟩ := hx; exact ⟨a, b, c, d, e, f, g, hq0.1, hq0.2.1, hq0.2.2.1, hq0.2.2.2.1, fun v s x => k _ _ (hq0.2.2.2.2 v s x)⟩
noncomputable def specs07 : List Spec1 := [wholeS, keyS, valueS, halfS, risesS, pairS, blockS, fitS, belS, pofS, levS, sndS, cellS, widS, lvlS, tbyS, pspS, bspS, dprS, rngS, tspS, saysS, awS, spS]
noncomputable def Φ07 : Spec := nthS specs07
theorem mono07 : SpecMono Φ07 := nthS_mono specs07 ⟨fun _ _ _ _ => wholeS_mono, fun _ _ _ _ => keyS_mono, fun _ _ _ _ => valueS_mono, halfS_mono, fun _ _ _ _ => risesS_mono, fun _ _ _ _ => pairS_mono, fun _ _ _ _ => blockS_mono, fitS_mono, belS_mono, pofS_mono, levS_mono, sndS_mono, fun _ _ _ _ => cellS_mono, widS_mono, lvlS_mono, tbyS_mono, pspS_mono, bspS_mono, dprS_mono, rngS_mono, tspS_mono, fun _ _ _ _ => saysS_mono, awS_mono, spS_mono, trivial⟩
noncomputable def vS (k : Nat) : Str := ⟨(List.replicate ((k : Int) % 3).toNat (Str.ofString "v").cps.toList).flatten.toArray⟩
noncomputable def prL (f : Int) (n : Nat) : List V := (List.range n).map fun (k : Nat) => V.tup [.int (f + 3 * (k : Int)), .str (vS k)]
theorem vS_ok (k : Nat) : valueF (.str (vS k)) = true := by
  have h : ((k : Int) % 3).toNat = 0 ∨ ((k : Int) % 3).toNat = 1 ∨ ((k : Int) % 3).toNat = 2 := by (first | lia | omega)
  unfold vS
  rcases h with e | e | e <;> rw [e] <;> decide +kernel
theorem prL_get {f : Int} {n i : Nat} {p : V} (h : (prL f n)[i]? = some p) : i < n ∧ p = .tup [.int (f + 3 * (i : Int)), .str (vS i)] := by
  unfold prL at h
  rw [List.getElem?_map, Option.map_eq_some_iff] at h
  obtain ⟨j, hj, rfl⟩ := h
  obtain ⟨h1, h2⟩ := List.getElem?_eq_some_iff.mp hj
  simp only [List.length_range, List.getElem_range] at h1 h2
  subst h2
  exact ⟨h1, rfl⟩
theorem prL_len {f : Int} {n : Nat} : (prL f n).length = n := by unfold prL; simp
theorem prL_good {f : Int} {n : Nat} (h1 : -1000 ≤ f) (h2 : f < 1000) (hn : n ≤ 201) : ∀ p ∈ prL f n, pairF sLeaf p = true ∧ Dat 1 p := fun p hp => by
  obtain ⟨i, hi⟩ := List.mem_iff_getElem?.mp hp
  obtain ⟨hin, rfl⟩ := prL_get hi
  refine ⟨?_, dat2 (.int _) (.str _)⟩
  show ((decide (-10 ^ 60 < f + 3 * (i : Int)) && decide (f + 3 * (i : Int) < 10 ^ 60)) && (if sLeaf = sLeaf then valueF (.str (vS i)) else numF (.str (vS i)))) = true
  rw [if_pos rfl, vS_ok, decide_eq_true (by (first | lia | omega)), decide_eq_true (by (first | lia | omega))]; rfl
theorem prL_rises {f : Int} {n : Nat} : risesF (prL f n) = true := rises_iff.mpr fun i hi => by
  simp only [prL_len] at hi
  have g : ∀ j, j < n → (prL f n).getD j .none = .tup [.int (f + 3 * (j : Int)), .str (vS j)] := fun j hj => by
    rw [List.getD_eq_getElem?_getD, List.getElem?_eq_getElem (by rw [prL_len]; exact hj)]
    exact (prL_get (List.getElem?_eq_getElem (by rw [prL_len]; exact hj))).2
  simp only [g i (by solve_by_elim (maxDepth := 3) [Nat.le_of_lt, Nat.le_trans, Nat.lt_of_lt_of_le, Nat.lt_of_le_of_lt, n1, n2, n5, n6]), g (i + 1) hi]
  show f + 3 * (i : Int) < f + 3 * ((i + 1 : Nat) : Int)
  lia
theorem prL_top {f : Int} {n : Nat} : TopOk (prL f n) (f + 3 * (n : Int) - 3) := fun A lp B e hne => by
  have h0 : (prL f n)[A.length]? = some lp := by rw [e, List.getElem?_append_right (Nat.le_refl _), Nat.sub_self]; rfl
  obtain ⟨hn, rfl⟩ := prL_get h0
  have hn1 : A.length + 1 < n := by
    have hne : f + 3 * (A.length : Int) ≠ f + 3 * (n : Int) - 3 := hne
    lia
  have h1 : (prL f n)[A.length + 1]? = B[0]? := by rw [e, List.getElem?_append_right (by solve_by_elim (maxDepth := 2) [Nat.le_of_lt, Nat.le_trans, Nat.lt_of_lt_of_le, Nat.lt_of_le_of_lt, Nat.le_succ_of_le, Nat.lt_succ_of_le, Nat.le_of_succ_le, Nat.le_of_lt_succ, Nat.not_lt.mp, Nat.not_le.mp, Nat.le_add_right, Nat.le_add_left, Nat.sub_le]), show A.length + 1 - A.length = 1 by lia]; rfl
  cases B with
  | nil =>
    have := congrArg List.length e
    simp only [prL_len, List.length_append] at this
    simp at this; lia
  | cons y B' =>
    obtain ⟨_, rfl⟩ := prL_get h1
    refine ⟨_, B', rfl, ?_, ?_⟩
    · show f + 3 * ((A.length + 1 : Nat) : Int) ≤ f + 3 * (A.length : Int) + 3; lia
    · show f + 3 * ((A.length + 1 : Nat) : Int) ≤ _; lia
theorem sortV_keys {asc : List Int} (h : asc.Pairwise (· < ·)) (hp : ∀ k ∈ asc, 0 < k) : sortV (asc ++ [0]) = some (0 :: asc) := by
  unfold sortV
  rw [List.reverse_append]
  show (if asc.reverse.reverse.Pairwise (· < ·) ∧ ∀ x ∈ asc.reverse, (0 : Int) < x then some ((0 : Int) :: asc.reverse.reverse) else none) = _
  rw [List.reverse_reverse, if_pos ⟨h, fun x hx => hp x (List.mem_reverse.mp hx)⟩]
theorem cellW {ks : List Int} (hl : ks.length ≤ 63) {j : Int} (hj : 0 ≤ j) {Q : Post} {σ : View} (h : Q (.int (cellAt ks j.toNat)) σ) : below Φ07 24 12 [.lst (ks.map .int), .int j] Q σ := ⟨by decide, ks, j, rfl, hj, hl, h⟩
theorem law_ok (ks : List Int) (hl : ks.length ≤ 63) (hb : ∀ k ∈ ks, Builtin.Int.intBits k ≤ 2 ^ 20) (Gc : Nat → V) : swps (below Φ07 24) Gc m_law (fun _ _ => V.none = .bool true) (fun d _ => d = .bool true) (fun _ => none) (argLs [.lst (ks.map .int)]) := by
  have hM : SpecMono (below Φ07 24) := below_mono mono07 24
  unfold m_law ss
  simp only [List.foldr]
  refine c_assign hM (fun d => ∃ w, 3 ≤ w ∧ w ≤ 64 ∧ d = .int w) ?_ ?_
  · sizeOf_list_dec
    refine cellW hl (by decide) ?_
    exact ⟨by decide, _, rfl, fun w h1 h2 => ⟨rfl, w, h1, h2, rfl⟩⟩
  rintro _ ⟨w, hw3, hw, rfl⟩
  refine c_assign hM (fun d => ∃ n, 0 ≤ n ∧ n ≤ 200 ∧ d = .int n) ?_ ?_
  · refine cellW hl (by decide) ?_
    sizeOf_list_dec
    refine ⟨rfl, _, ?_, ?_, rfl⟩ <;> (first | lia | omega)
  rintro _ ⟨n', n1', n2', rfl⟩
  refine c_if_assign hM (fun d => ∃ n : Nat, n ≤ 200 ∧ d = .int n) ?_ ?_
  · have e0 : cwp (below Φ07 24) Gc (((argLs [.lst (ks.map .int)]).set 1 (.int w)).set 2 (.int n')) (.op .mod (es [(.op .mod (es [(.op .mul (es [(.call 12 (es [(.var 0), (.lit (.int 1))])), (.lit (.int 48271))])), (.lit (.int 1009))])), (.lit (.int 201))])) (fun d σ' => σ' = (fun _ => none) ∧ ∃ n : Nat, n ≤ 200 ∧ d = .int n) (fun _ => none) := by
      refine cellW hl (by decide) ?_
      sizeOf_list_dec
      refine opt_if (mulFits_right (by decide) (by decide)) ?_
      sizeOf_list_dec
      exact ⟨rfl, (cellAt ks 1 * 48271 % 1009 % 201).toNat, by (first | lia | omega), by congr 1; (first | lia | omega)⟩
    have e1 : opt ((((argLs [.lst (ks.map .int)]).set 1 (.int w)).set 2 (.int n')) 2) (fun d => ∃ n : Nat, n ≤ 200 ∧ d = .int n) := ⟨n'.toNat, by (first | lia | omega), by congr 1; (first | lia | omega)⟩
    refine cellW hl (by decide) ?_
    sizeOf_list_dec
    cases decide (cellAt ks 1 / 41 % 4 = 1) with
    | true => exact ⟨rfl, e0⟩
    | false =>
      sizeOf_list_dec
      cases decide (6 < w) with
      | true => exact ⟨rfl, e0⟩
      | false => exact ⟨rfl, e1⟩
  rintro _ ⟨n, hn, rfl⟩; rw [set_set]
  refine c_assign hM (fun d => ∃ f, -1000 ≤ f ∧ f < 1000 ∧ d = .int f) ?_ ?_
  · sizeOf_list_dec
    refine cellW hl (by decide) ?_
    sizeOf_list_dec
    refine ⟨rfl, _, ?_, ?_, rfl⟩ <;> (first | lia | omega)
  rintro _ ⟨f, f1, f2, rfl⟩
  refine c_assign hM (fun d => d = .lst (prL f n)) ?_ ?_
  · refine w_comp_r hM (n := n) (fun k => V.tup [.int (f + 3 * (k : Int)), .str (vS k)]) (cwp_e hM _ ⟨rfl, rfl⟩) (by unfold big; (first | lia | omega)) (fun k hk => cwp_e hM _ ?_) ⟨rfl, rfl⟩
    sizeOf_list_dec
    refine opt_of (if_pos (e := none) (show (Str.ofString "v").length * ((k : Int) % 3).toNat ≤ big ∧ smallI ((k : Int) % 3) = true from ⟨by rw [show (Str.ofString "v").length = 1 by decide +kernel]; unfold big; (first | lia | omega), smallI_of (by (first | lia | omega)) (by (first | lia | omega))⟩)) ?_
    sizeOf_list_dec
    exact ⟨rfl, rfl⟩
  rintro _ rfl
  refine c_assign hM (fun d => ∃ es, Tree es (prL f n) w ∧ (∃ asc, keysD es = asc ++ [0] ∧ asc.Pairwise (· < ·) ∧ ∀ k ∈ asc, 0 < k) ∧ es.length ≤ 500 ∧ d = .dct es) ?_ ?_
  · sizeOf_list_dec
    refine cellW hl (by decide) ?_
    sizeOf_list_dec
    exact ⟨by decide, prL f n, w, _, rfl, by (first | lia | omega), hw3, hw, by rw [prL_len]; (first | lia | omega), prL_good f1 f2 (by (first | lia | omega)), prL_rises, fun es h1 h2 h3 => ⟨rfl, es, h1, h2, h3, rfl⟩⟩
  rintro _ ⟨es, T, ⟨asc, hkeys, hasc, hpos⟩, hlen, rfl⟩
  have hOk := okd_tree T hw3 hw
  refine c_assign hM (fun d => d = .dct es) ?_ ?_
  · sizeOf_list_dec
    exact opt_of (a := .dct es) rfl ⟨rfl, rfl⟩
  rintro _ rfl
  have heq : eqV (fun _ => none) (.dct es) (.dct es) = some true := by
    rw [eqV_dic (a := es) (b := es) rfl rfl]
    exact eqDict_ext T.nd T.nd (fun _ => rfl) fun p hp => (T.dat p hp).mono (by decide)
  refine c_guard hM ?_ ?_
  · sizeOf_list_dec
    refine ⟨by decide, es, w, true, rfl, hOk, hw3, by (first | lia | omega), T.sound prL_rises T.fit, ?_⟩
    refine opt_of (a := .bool false) rfl ?_
    sizeOf_list_dec
    exact opt_map heq ⟨rfl, rfl⟩
  by_cases q : cellAt ks 4 % 4 = 0
  · refine c_ite_ret hM ?_ ?_
    · sizeOf_list_dec
      refine cellW hl (by decide) ?_
      sizeOf_list_dec
      exact ⟨rfl, decide_eq_true q⟩
    sizeOf_list_dec
    by_cases q64 : w = 64
    · subst q64
      refine ⟨by decide, es, 64, true, rfl, hOk, by decide, by decide, T.sound prL_rises T.fit, ?_⟩
      sizeOf_list_dec
      exact ⟨by decide, true, true, rfl, rfl⟩
    · refine ⟨by decide, es, w + 1, wideF es (w + 1), by rw [show min 64 (w + 1) = w + 1 by (first | lia | omega)], hOk, by (first | lia | omega), by (first | lia | omega), T.wide hw3 prL_rises (by (first | lia | omega)), ?_⟩
      sizeOf_list_dec
      rw [decide_eq_false q64]
      sizeOf_list_dec
      refine ⟨by decide, es, prL f n, w, w + 1, rfl, T, hw3, ?_⟩
      refine ⟨by decide, _, _, rfl, ?_⟩
      simp
  refine c_guard hM ?_ ?_
  · sizeOf_list_dec
    refine cellW hl (by decide) ?_
    sizeOf_list_dec
    exact ⟨rfl, decide_eq_false q⟩
  refine c_assign hM (fun d => d = .lst ((0 :: asc).map .int)) ?_ ?_
  · sizeOf_list_dec
    refine opt_of (a := .lst ((asc ++ [0]).map .int)) (by show some (V.lst (es.map fun p => V.int p.1)) = _; rw [← hkeys]; unfold keysD; refine (Eq.symm List.map_map) ▸ ?_; rfl) ?_
    refine opt_of (a := .lst ((0 :: asc).map .int)) (by show (ints? ((asc ++ [0]).map .int)).bind _ = _; refine ints_map ▸ ?_; show (sortV (asc ++ [0])).map _ = _; exact congrArg _ (sortV_keys hasc hpos)) ?_
    exact ⟨rfl, rfl⟩
  rintro _ rfl
  refine c_assign hM (fun d => ∃ m, (lookD m es).isSome = true ∧ d = .int m) ?_ ?_
  · sizeOf_list_dec
    refine cellW hl (by decide) ?_
    sizeOf_list_dec
    have hp : (0 : Int) < (((0 :: asc).map V.int).length : Int) := by simp
    refine opt_if hp ?_
    sizeOf_list_dec
    have m0 := Int.emod_nonneg (cellAt ks 5) (show (((0 :: asc).map V.int).length : Int) ≠ 0 by (first | lia | omega))
    have m1 := Int.emod_lt_of_pos (cellAt ks 5) hp
    refine opt_of (a := ((0 :: asc).map V.int)[(cellAt ks 5 % (((0 :: asc).map V.int).length : Int)).toNat]'(by (first | lia | omega))) (by rw [idxOf_pos m0 m1]; exact List.getElem?_eq_getElem _) ?_
    refine ⟨rfl, ((0 :: asc))[(cellAt ks 5 % (((0 :: asc).map V.int).length : Int)).toNat]'(by have : ((0 :: asc).map V.int).length = (0 :: asc).length := List.length_map _; (first | lia | omega)), ?_, by rw [List.getElem_map]⟩
    have : ∀ m ∈ (0 :: asc), (lookD m es).isSome = true := fun m hm => by
      cases hq : lookD m es with
      | some b => rfl
      | none =>
        have := lookD_none.mp hq
        replace this := hkeys ▸ this
        refine absurd ?_ this
        rcases List.mem_cons.mp hm with rfl | hm
        · simp
        · exact List.mem_append_left _ hm
    exact this _ (List.getElem_mem _)
  rintro _ ⟨m, hm, rfl⟩
  refine c_assign hM (fun d => ∃ c, 0 ≤ c ∧ d = .int c) ?_ ?_
  · sizeOf_list_dec
    refine cellW hl (by decide) ?_
    sizeOf_list_dec
    exact ⟨rfl, _, by (first | lia | omega), rfl⟩
  rintro _ ⟨c, hc0, rfl⟩
  refine c_any hM ?_
  sizeOf_list_dec
  refine cellW hl (by decide) ?_
  sizeOf_list_dec
  refine ⟨(Nat.le_refl _), es, prL f n, m, _, w, _, c, rfl, ⟨T, hw3, hw, hlen, hm, hc0, prL_top⟩, by (first | lia | omega), by (first | lia | omega), fun v σ' hv => ?_⟩
  refine c_ret hM ?_
  sizeOf_list_dec
  rcases hv with rfl | ⟨es', rfl, hOk', hS⟩
  · exact (show V.bool true = .bool true from rfl)
  · refine opt_of (a := .bool false) rfl ?_
    sizeOf_list_dec
    exact ⟨by decide, es', w, false, rfl, hOk', hw3, by (first | lia | omega), hS, opt_of (a := .bool true) rfl rfl⟩
end

end Mine
end

open PySem PySem.W PySem.Calls PyProof.Rows
set_option maxRecDepth 100000
set_option linter.unusedVariables false
set_option Elab.async false
namespace Mine
theorem rcd_mem {n : Str} (h : (recs.find? fun d => d.name == n).isSome = true) : rcd n ∈ recs := by
  unfold rcd
  obtain ⟨d, hd⟩ := Option.isSome_iff_exists.mp h
  rw [hd]; exact List.mem_of_find?_eq_some hd
noncomputable def gcW : Nat → V := fun _ => .int 60
set_option maxHeartbeats 4000000 in
theorem spec_all : ∀ f F, tab.fns[f]? = some F → ∀ xs Q σ, Φ07 f xs Q σ → xs.length = F.d.params.args.length ∧ swps (below Φ07 f) gcW F.ms (fun σ' _ => Q .none σ') Q σ (argLs xs)
  | 0, F, h => by
    cases h
    intro xs Q σ h
    have k := wholeS_ok (below Φ07 0) (below_mono mono07 _) gcW h
    exact ⟨k.1.trans (by decide +kernel), k.2⟩
  | 1, F, h => by
    cases h
    intro xs Q σ h
    have k := keyS_ok (below Φ07 1) (below_mono mono07 _) 0 (fun xs Q σ h => ⟨by decide, h⟩) gcW h
    exact ⟨k.1.trans (by decide +kernel), k.2⟩
  | 2, F, h => by
    cases h
    intro xs Q σ h
    have k := valueS_ok (below Φ07 2) (below_mono mono07 _) gcW rfl h
    exact ⟨k.1.trans (by decide +kernel), k.2⟩
  | 3, F, h => by
    cases h
    intro xs Q σ h
    have k := half_ok (below Φ07 3) (below_mono mono07 _) gcW h
    exact ⟨k.1.trans (by decide +kernel), k.2⟩
  | 4, F, h => by
    cases h
    intro xs Q σ h
    have k := risesS_ok (below Φ07 4) (below_mono mono07 _) gcW h
    exact ⟨k.1.trans (by decide +kernel), k.2⟩
  | 5, F, h => by
    cases h
    intro xs Q σ h
    have k := pairS_ok (below Φ07 5) (below_mono mono07 _) 0 1 2 (fun xs Q σ h => ⟨by decide, h⟩) (fun xs Q σ h => ⟨by decide, h⟩) (fun xs Q σ h => ⟨by decide, h⟩) gcW h
    exact ⟨k.1.trans (by decide +kernel), k.2⟩
  | 6, F, h => by
    cases h
    intro xs Q σ h
    have k := blockS_ok (below Φ07 6) (below_mono mono07 _) 5 4 (fun xs Q σ h => ⟨by decide, h⟩) (fun xs Q σ h => ⟨by decide, h⟩) gcW h
    exact ⟨k.1.trans (by decide +kernel), k.2⟩
  | 7, F, h => by
    cases h
    intro xs Q σ h
    have k := fit_ok (below Φ07 7) (below_mono mono07 _) gcW (fun xs Q σ h => ⟨by decide, h⟩) (fun xs Q σ h => ⟨by decide, h⟩) h
    exact ⟨k.1.trans (by decide +kernel), k.2⟩
  | 8, F, h => by
    cases h
    intro xs Q σ h
    have k := bel_ok (below Φ07 8) (below_mono mono07 _) gcW h
    exact ⟨k.1.trans (by decide +kernel), k.2⟩
  | 9, F, h => by
    cases h
    intro xs Q σ h
    have k := pof_ok (below Φ07 9) (below_mono mono07 _) gcW h
    exact ⟨k.1.trans (by decide +kernel), k.2⟩
  | 10, F, h => by
    cases h
    intro xs Q σ h
    have k := lev_ok (below Φ07 10) (below_mono mono07 _) gcW (fun xs Q σ h => ⟨by decide, h⟩) (fun xs Q σ h => ⟨by decide, h⟩) (fun xs Q σ h => ⟨by decide, h⟩) h
    exact ⟨k.1.trans (by decide +kernel), k.2⟩
  | 11, F, h => by
    cases h
    intro xs Q σ h
    have k := snd_ok (below Φ07 11) (below_mono mono07 _) gcW (fun xs Q σ h => ⟨by decide, h⟩) (fun xs Q σ h => ⟨by decide, h⟩) h
    exact ⟨k.1.trans (by decide +kernel), k.2⟩
  | 12, F, h => by
    cases h
    intro xs Q σ h
    have k := cellS_ok (below Φ07 12) (below_mono mono07 _) gcW h
    exact ⟨k.1.trans (by decide +kernel), k.2⟩
  | 13, F, h => by
    cases h
    intro xs Q σ h
    have k := width_ok (below Φ07 13) (below_mono mono07 _) gcW h
    exact ⟨k.1.trans (by decide +kernel), k.2⟩
  | 14, F, h => by
    cases h
    intro xs Q σ h
    have k := level_ok (below Φ07 14) (below_mono mono07 _) gcW h
    exact ⟨k.1.trans (by decide +kernel), k.2⟩
  | 15, F, h => by
    cases h
    intro xs Q σ h
    have k := tree_ok (below Φ07 15) (below_mono mono07 _) gcW (fun xs Q σ h => ⟨by decide, h⟩) h
    exact ⟨k.1.trans (by decide +kernel), k.2⟩
  | 16, F, h => by
    cases h
    intro xs Q σ h
    have k := pair_sp_ok (below Φ07 16) (below_mono mono07 _) gcW h
    exact ⟨k.1.trans (by decide +kernel), k.2⟩
  | 17, F, h => by
    cases h
    intro xs Q σ h
    have k := bsp_ok (below Φ07 17) (below_mono mono07 _) gcW (fun xs Q σ h => ⟨by decide, h⟩) h
    exact ⟨k.1.trans (by decide +kernel), k.2⟩
  | 18, F, h => by
    cases h
    intro xs Q σ h
    have k := deep_ok (below Φ07 18) (below_mono mono07 _) gcW h
    exact ⟨k.1.trans (by decide +kernel), k.2⟩
  | 19, F, h => by
    cases h
    intro xs Q σ h
    have k := ring_ok (below Φ07 19) (below_mono mono07 _) gcW h
    exact ⟨k.1.trans (by decide +kernel), k.2⟩
  | 20, F, h => by
    cases h
    intro xs Q σ h
    have k := tsp_ok (σ := σ) (below Φ07 20) (below_mono mono07 _) gcW (fun xs Q σ h => ⟨by decide, h⟩) (fun xs Q σ h => ⟨by decide, h⟩) h
    exact ⟨k.1.trans (by decide +kernel), k.2⟩
  | 21, F, h => by
    cases h
    intro xs Q σ h
    have k := saysS_ok (below Φ07 21) (below_mono mono07 _) gcW h
    exact ⟨k.1.trans (by decide +kernel), k.2⟩
  | 22, F, h => by
    cases h
    intro xs Q σ h
    have k := wide_ok (below Φ07 22) (below_mono mono07 _) gcW h
    exact ⟨k.1.trans (by decide +kernel), k.2⟩
  | 23, F, h => by
    cases h
    intro xs Q σ h
    have k := sp_ok (σ := σ) (below Φ07 23) (below_mono mono07 _) gcW (fun xs Q σ h => ⟨by decide, h⟩) (fun xs Q σ h => ⟨by decide, h⟩) h
    exact ⟨k.1.trans (by decide +kernel), k.2⟩
  | 24, F, h => by
    cases h
    intro xs Q σ h
    exact (show False from h).elim
  | f + 25, F, h => by simp [tab] at h
set_option maxHeartbeats 4000000 in
theorem tab_in : ∀ F ∈ tab.fns, F.d ∈ recs := by
  unfold tab
  dsimp only
  refine List.forall_mem_cons.mpr ⟨rcd_mem (n := "is_whole") (by decide +kernel), ?_⟩
  refine List.forall_mem_cons.mpr ⟨rcd_mem (n := "is_key") (by decide +kernel), ?_⟩
  refine List.forall_mem_cons.mpr ⟨rcd_mem (n := "is_value") (by decide +kernel), ?_⟩
  refine List.forall_mem_cons.mpr ⟨rcd_mem (n := "half") (by decide +kernel), ?_⟩
  refine List.forall_mem_cons.mpr ⟨rcd_mem (n := "rises") (by decide +kernel), ?_⟩
  refine List.forall_mem_cons.mpr ⟨rcd_mem (n := "is_pair") (by decide +kernel), ?_⟩
  refine List.forall_mem_cons.mpr ⟨rcd_mem (n := "is_block") (by decide +kernel), ?_⟩
  refine List.forall_mem_cons.mpr ⟨rcd_mem (n := "is_fit") (by decide +kernel), ?_⟩
  refine List.forall_mem_cons.mpr ⟨rcd_mem (n := "below") (by decide +kernel), ?_⟩
  refine List.forall_mem_cons.mpr ⟨rcd_mem (n := "pairs_of") (by decide +kernel), ?_⟩
  refine List.forall_mem_cons.mpr ⟨rcd_mem (n := "is_level") (by decide +kernel), ?_⟩
  refine List.forall_mem_cons.mpr ⟨rcd_mem (n := "sound") (by decide +kernel), ?_⟩
  refine List.forall_mem_cons.mpr ⟨rcd_mem (n := "_law_cell_at") (by decide +kernel), ?_⟩
  refine List.forall_mem_cons.mpr ⟨rcd_mem (n := "_law_width_by") (by decide +kernel), ?_⟩
  refine List.forall_mem_cons.mpr ⟨rcd_mem (n := "_law_level") (by decide +kernel), ?_⟩
  refine List.forall_mem_cons.mpr ⟨rcd_mem (n := "_law_tree_by") (by decide +kernel), ?_⟩
  refine List.forall_mem_cons.mpr ⟨rcd_mem (n := "_law_pair_spoilt") (by decide +kernel), ?_⟩
  refine List.forall_mem_cons.mpr ⟨rcd_mem (n := "_law_block_spoilt") (by decide +kernel), ?_⟩
  refine List.forall_mem_cons.mpr ⟨rcd_mem (n := "_law_deeper") (by decide +kernel), ?_⟩
  refine List.forall_mem_cons.mpr ⟨rcd_mem (n := "_law_ringed") (by decide +kernel), ?_⟩
  refine List.forall_mem_cons.mpr ⟨rcd_mem (n := "_law_tree_spoilt") (by decide +kernel), ?_⟩
  refine List.forall_mem_cons.mpr ⟨rcd_mem (n := "_law_says") (by decide +kernel), ?_⟩
  refine List.forall_mem_cons.mpr ⟨rcd_mem (n := "_law_as_wide") (by decide +kernel), ?_⟩
  refine List.forall_mem_cons.mpr ⟨rcd_mem (n := "_law_spoilt") (by decide +kernel), ?_⟩
  refine List.forall_mem_cons.mpr ⟨rcd_mem (n := "law") (by decide +kernel), ?_⟩
  exact fun _ h => nomatch h
/-! the head: the top runs, as one look of the kernel -/
noncomputable def vq : Program := view PySem.Challenge.pw_uf020012_07 [1, 2, 3, 4, 5, 6, 7, 8, 10, 11, 12, 13, 14, 16, 17, 18, 19, 20, 21, 22, 23, 24, 25, 26, 27, 28]
noncomputable def xt (s : Shared) : Bool := recOk (RowW.records PySem.Challenge.rw_uf020012_07.row.toRowW) s
theorem left : LeftO PySem.Challenge.pw_uf020012_07 vq [] xt (Hook.obs Hook.none) (Hook.val Hook.none) 20000 := by
  intro w
  kernel_rfl
theorem said : PySem.Challenge.rw_uf020012_07.wellSaid = true := by decide +kernel
theorem recs_eq : recs = recsOf vq := by kernel_rfl
theorem h_def : defOf vq PySem.Challenge.rw_uf020012_07.row.name = some (rcd "law", []) := by kernel_rfl
theorem h_p : PySem.Challenge.rw_uf020012_07.row.prog.theDef PySem.Challenge.rw_uf020012_07.row.name = some ((rcd "law").params, (rcd "law").body, (rcd "law").scope) := by kernel_rfl
theorem h_k : kwWritten? (rcd "law").params.kwonlyargs (rcd "law").params.kw_defaults = some [] := by kernel_rfl
theorem h_ok : (chainsOk vq && opensWell PySem.Challenge.rw_uf020012_07.row.prog && (frees PySem.Challenge.rw_uf020012_07.row.toRowW && PySem.Challenge.rw_uf020012_07.row.within.isEmpty)) = true := by decide +kernel
theorem h_b : PySem.Challenge.rw_uf020012_07.row.prog.bare := ⟨rfl, rfl, rfl, rfl, rfl, by decide +kernel⟩
theorem h_w : PySem.Challenge.rw_uf020012_07.row.toRowW.promised := by w_witness2
theorem hd (walk : WalkO vq [] (fun _ _ => True) (fun _ _ => True) PySem.Challenge.rw_uf020012_07.row.toRowW (rcd "law") [] (fun f vs => call f vs)) : PySem.Challenge.rw_uf020012_07.Holds :=
  holds_law said fun sd => holds_open (Xt := xt) (Yf := Hook.obs Hook.none) (Ya := Hook.val Hook.none) (N := 20000) left (fun _ _ _ => trivial) (fun _ _ _ _ _ => trivial) (fun _ _ => trivial) (fun _ _ _ _ _ => trivial)
    h_def h_p h_k (fun _ e => recFacts_of e) rfl sd h_ok h_b h_w walk
end Mine
set_option maxHeartbeats 8000000 in
theorem PySem.Challenge.cw_uf020012_07_holds : PySem.Challenge.rw_uf020012_07.Holds :=
  Mine.hd (Mine.law_walk (l := _) rfl rfl Mine.tab Mine.Φ07 Mine.gcW 24 ⟨Mine.rcd "law", Mine.m_law, Mine.v_law⟩ rfl rfl (by decide) (by decide +kernel) (fun F h => List.all_eq_true.mp Mine.tab_ag F h)
    (Mine.recs_eq ▸ Mine.tab_in) Mine.mono07 (by decide +kernel) (fun k x h => by
      cases k with
      | zero => cases h; exact ⟨.int 60, by kernel_rfl, fun h v D r => by cases r; exact .int _ _⟩
      | succ k => simp [Mine.tab, Mine.gcs_uf020012_07] at h) Mine.spec_all (fun ks h1 h2 => Mine.law_ok ks h1 h2 _))
