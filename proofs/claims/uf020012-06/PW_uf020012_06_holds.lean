
import PyProof.Rows.All
import OpenK.KLine
import KE.KEqDict
import KE.KDictOf
import KE.KDictList
import Open.Head
import Wide.All
import Open.Line
import Wide.FinOn
import Lean
import PySem.Challenge.RW_uf020012_06
set_option bootstrap.genMatcherCode false
set_option genSizeOf false
set_option genSizeOfSpec false
section
open PySem PyProof.Rows
namespace Mine
theorem ff {P : Prop} (h : false = true) : P := absurd h Bool.false_ne_true
theorem ff2 {P : Prop} (h : true = false) : P := absurd h.symm Bool.false_ne_true
theorem nn {P : Prop} {α : Type} {a : α} (h : none = some a) : P := by cases h

/-- plain data; `ref`: a mutable object of the call's own, held by the view; `raw`: any other value, as it is -/
inductive V where
  | none
  | bool (b : Bool)
  | int (i : Int)
  | str (s : Str)
  | tup (xs : List V)
  | lst (xs : List V)
  | dct (es : List (Int × V))
  | ref (a : Addr)
  | raw (v : Value)

/-- what the view says of an object; `ro`: for now it is only read -/
inductive Cell where
  | list (ro : Bool) (xs : List V)
  | dict (ro : Bool) (es : List (Int × V))
  | inst (c d : Addr)
  | attrs (fs : List (Str × V))
noncomputable def Cell.ro : Cell → Bool
  | .list r _ => r
  | .dict r _ => r
  | _ => false
noncomputable def Cell.lock : Cell → Cell
  | .list _ xs => .list true xs
  | .dict _ es => .dict true es
  | c => c

noncomputable abbrev View := Addr → Option Cell
noncomputable abbrev Ls := Nat → Option V
noncomputable def View.upd (σ : View) (a : Addr) (c : Cell) : View := fun b => if b = a then some c else σ b
noncomputable def View.del (σ : View) (a : Addr) : View := fun b => if b = a then none else σ b
noncomputable def Ls.set (ls : Ls) (i : Nat) (v : V) : Ls := fun j => if j = i then some v else ls j

@[simp] theorem upd_self (σ : View) (a : Addr) (c : Cell) : σ.upd a c a = some c := by simp [View.upd]
theorem upd_ne {σ : View} {a b : Addr} {c : Cell} (h : b ≠ a) : σ.upd a c b = σ b := by simp [View.upd, h]
@[simp] theorem upd_upd (σ : View) (a : Addr) (c d : Cell) : (σ.upd a c).upd a d = σ.upd a d := by funext b; simp only [View.upd]; split <;> rfl
theorem del_upd {σ : View} {a : Addr} {c : Cell} (h : σ a = none) : (σ.upd a c).del a = σ := by
  funext b; simp only [View.upd, View.del]; split
  · rename_i e; rw [e, h]
  · rfl
@[simp] theorem del_self (σ : View) (a : Addr) : σ.del a a = none := by simp [View.del]
theorem del_ne {σ : View} {a b : Addr} (h : b ≠ a) : σ.del a b = σ b := by simp [View.del, h]
noncomputable def listObj (vs : Array Value) (n : Nat) : Obj := { cls := .type "list", data := .seq vs n }
noncomputable def tupObj (vs : Array Value) (n : Nat) : Obj := { cls := .type "tuple", data := .seq vs n }
noncomputable def dictObj (es : Array DictEntry) (n : Nat) : Obj := { cls := .type "dict", data := .dict es n }

mutual
inductive Real (h : Heap) (D : Addr → Prop) : Value → V → Prop
  | none : Real h D .none .none
  | bool (b : Bool) : Real h D (.bool b) (.bool b)
  | int (i : Int) (t : Tok) : Real h D (.int i t) (.int i)
  | str (x : Str) (t : Tok) : PyData.strOk x = true → x.cps.size ≤ 2 ^ 24 → Real h D (.str x t) (.str x)
  | tup {a : Addr} {vs : Array Value} {n : Nat} {xs : List V} : h.get? a = some (tupObj vs n) → vs.size ≤ 2 ^ 24 → ¬ D a → Reals h D vs.toList xs → Real h D (.ref a) (.tup xs)
  | lst {a : Addr} {vs : Array Value} {n : Nat} {xs : List V} : h.get? a = some (listObj vs n) → vs.size ≤ 2 ^ 24 → ¬ D a → Reals h D vs.toList xs → Real h D (.ref a) (.lst xs)
  | dct {a : Addr} {es : Array DictEntry} {n : Nat} {xs : List (Int × V)} : h.get? a = some (dictObj es n) → es.size ≤ 2 ^ 24 → (xs.map (·.1)).Nodup → 2 < a → ¬ D a → RealD h D es.toList xs → Real h D (.ref a) (.dct xs)
  | ref (a : Addr) : Real h D (.ref a) (.ref a)
  | raw (v : Value) : Real h D v (.raw v)
inductive Reals (h : Heap) (D : Addr → Prop) : List Value → List V → Prop
  | nil : Reals h D [] []
  | cons {v : Value} {vs : List Value} {x : V} {xs : List V} : Real h D v x → Reals h D vs xs → Reals h D (v :: vs) (x :: xs)
inductive RealD (h : Heap) (D : Addr → Prop) : List DictEntry → List (Int × V) → Prop
  | nil : RealD h D [] []
  | cons {e : DictEntry} {es : List DictEntry} {k : Int} {t : Tok} {x : V} {xs : List (Int × V)} : e.key = .int k t → e.hash = hashInt k → Real h D e.val x → RealD h D es xs → RealD h D (e :: es) ((k, x) :: xs)
end

/-- what a change of heap must leave, that what is read stays read -/
noncomputable def Leaves (h : Heap) (D : Addr → Prop) (h' : Heap) (D' : Addr → Prop) : Prop := ∀ b o, h.get? b = some o → ¬ D b → h'.get? b = some o ∧ ¬ D' b

mutual
theorem Real.leaves {h h' : Heap} {D D' : Addr → Prop} (L : Leaves h D h' D') : ∀ {v : Value} {x : V}, Real h D v x → Real h' D' v x
  | _, _, .none => .none
  | _, _, .bool b => .bool b
  | _, _, .int i t => .int i t
  | _, _, .str x t k z => .str x t k z
  | _, _, .tup ho hz hs r => .tup (L _ _ ho hs).1 hz (L _ _ ho hs).2 (r.leaves L)
  | _, _, .lst ho hz hs r => .lst (L _ _ ho hs).1 hz (L _ _ ho hs).2 (r.leaves L)
  | _, _, .dct ho hz hn h2 hs r => .dct (L _ _ ho hs).1 hz hn h2 (L _ _ ho hs).2 (r.leaves L)
  | _, _, .ref a => .ref a
  | _, _, .raw v => .raw v
theorem Reals.leaves {h h' : Heap} {D D' : Addr → Prop} (L : Leaves h D h' D') : ∀ {vs : List Value} {xs : List V}, Reals h D vs xs → Reals h' D' vs xs
  | _, _, .nil => .nil
  | _, _, .cons a r => .cons (a.leaves L) (r.leaves L)
theorem RealD.leaves {h h' : Heap} {D D' : Addr → Prop} (L : Leaves h D h' D') : ∀ {es : List DictEntry} {xs : List (Int × V)}, RealD h D es xs → RealD h' D' es xs
  | _, _, .nil => .nil
  | _, _, .cons a b c r => .cons a b (c.leaves L) (r.leaves L)
end

inductive RealA (P : Params) (h : Heap) (D : Addr → Prop) : List DictEntry → List (Str × V) → Prop
  | nil : RealA P h D [] []
  | cons {e : DictEntry} {es : List DictEntry} {k : Str} {t : Tok} {x : V} {xs : List (Str × V)} : e.key = .str k t → e.hash = PyData.keyHash P k → Real h D e.val x → RealA P h D es xs → RealA P h D (e :: es) ((k, x) :: xs)
theorem RealA.leaves {P : Params} {h h' : Heap} {D D' : Addr → Prop} (L : Leaves h D h' D') : ∀ {es : List DictEntry} {xs : List (Str × V)}, RealA P h D es xs → RealA P h' D' es xs
  | _, _, .nil => .nil
  | _, _, .cons a b c r => .cons a b (c.leaves L) (r.leaves L)


noncomputable def CellAt (P : Params) (h : Heap) (D : Addr → Prop) (a : Addr) : Cell → Prop
  | .list _ xs => ∃ vs n, h.get? a = some (listObj vs n) ∧ vs.size ≤ 2 ^ 24 ∧ Reals h D vs.toList xs
  | .dict _ es => ∃ ds n, h.get? a = some (dictObj ds n) ∧ ds.size ≤ 2 ^ 24 ∧ (es.map (·.1)).Nodup ∧ RealD h D ds.toList es
  | .inst c d => h.get? a = some { cls := .ref c, dict := some d, data := .plain }
  | .attrs fs => ∃ ds n, h.get? a = some (dictObj ds n) ∧ RealA P h D ds.toList fs

/-- the view may change it -/
noncomputable def Rw (σ : View) (b : Addr) : Prop := ∃ c, σ b = some c ∧ c.ro = false
theorem Rw.of_none {σ : View} {b : Addr} (h : σ b = none) : ¬ Rw σ b := by rintro ⟨c, e, _⟩; rw [h] at e; cases e
theorem Rw.of_ro {σ : View} {b : Addr} {c : Cell} (h : σ b = some c) (hr : c.ro = true) : ¬ Rw σ b := by rintro ⟨c', e, h'⟩; rw [h] at e; cases e; rw [hr] at h'; cases h'

/-- objects that are not the view's to change (nor of `own`) stay; the view grows by new objects alone -/
structure Step (own : Addr → Prop) (h : Heap) (σ : View) (h' : Heap) (σ' : View) : Prop where
  keep : ∀ b o, h.get? b = some o → ¬ Rw σ b → ¬ own b → h'.get? b = some o
  size : h.objs.size ≤ h'.objs.size
  grow : ∀ a, σ' a ≠ none → σ a = none → h.objs.size ≤ a
  ro : ∀ a c, a < h.objs.size → σ a = some c → c.ro = true → σ' a = some c ∨ σ' a = none

theorem Step.refl (own : Addr → Prop) (h : Heap) (σ : View) : Step own h σ h σ := ⟨fun _ _ e _ _ => e, Nat.le_refl _, fun _ h1 h2 => absurd h2 h1, fun _ _ _ e _ => .inl e⟩
theorem not_some {α : Type} {x : Option α} {c : α} (q : x = some c) : x ≠ none := by rw [q]; exact fun h => nomatch h
theorem Step.none {own : Addr → Prop} {h h' : Heap} {σ σ' : View} (x : Step own h σ h' σ') {b : Addr} (e : b < h.objs.size) (hs : σ b = none) : σ' b = none := by
  cases q : σ' b with
  | none => rfl
  | some c => exact absurd e (Nat.not_lt.mpr (x.grow b (not_some q) hs))
theorem Step.notRw {own : Addr → Prop} {h h' : Heap} {σ σ' : View} (x : Step own h σ h' σ') {b : Addr} (e : b < h.objs.size) (hs : ¬ Rw σ b) : ¬ Rw σ' b := by
  cases q : σ b with
  | none => exact Rw.of_none (x.none e q)
  | some c =>
    cases hr : c.ro with
    | false => exact absurd ⟨c, q, hr⟩ hs
    | true =>
      rcases x.ro b c e q hr with h | h
      · exact Rw.of_ro h hr
      · exact Rw.of_none h
theorem Step.trans {own : Addr → Prop} {h₁ h₂ h₃ : Heap} {σ₁ σ₂ σ₃ : View} (x : Step own h₁ σ₁ h₂ σ₂) (y : Step own h₂ σ₂ h₃ σ₃) : Step own h₁ σ₁ h₃ σ₃ := by
  refine ⟨fun b o e hs ho => y.keep b o (x.keep b o e hs ho) (x.notRw (Heap.lt_size e) hs) ho, Nat.le_trans x.size y.size, fun a h3 h1 => ?_, fun a c ha e hr => ?_⟩
  · cases q : σ₂ a with
    | some c => exact x.grow a (not_some q) h1
    | none => exact Nat.le_trans x.size (y.grow a h3 q)
  · rcases x.ro a c ha e hr with h | h
    · exact y.ro a c (Nat.lt_of_lt_of_le ha x.size) h hr
    · exact .inr (y.none (Nat.lt_of_lt_of_le ha x.size) h)

structure Wd where
  prog : Program
  w : World
  q : Program
  loose : List Str
  mean : ExcName → Option Value
  s₀ : Shared
  mg : Str → Option Value
  mb : Str → Option Value

structure Wd.Ok (W : Wd) : Prop where
  top : Top W.q W.loose W.mean W.mg W.mb W.s₀.heap

structure Cx where
  W : Wd
  A : Around
  env : Env
  vars : List Str
  own : Addr → Prop
  B : Addr → Prop

noncomputable def Cx.D (C : Cx) (σ : View) : Addr → Prop := fun a => σ a ≠ none ∨ C.own a ∨ C.B a

noncomputable def HasVal (h : Heap) (env : Env) (x : Str) (v : Value) : Prop :=
  (env.kindOf x = some .local ∧ ∃ m, h.Ns env.locals m ∧ m x = some v) ∨
  ((env.kindOf x = some .cell ∨ env.kindOf x = some .free) ∧ ∃ c, env.cells.lookup x = some c ∧ h.IsCell c (some v))

/-- the parts that hold of any frame of the call -/
structure Ground (C : Cx) (σ : View) (s : Shared) : Prop where
  stays : C.W.s₀.heap.StaysIn s.heap
  same : s.gens = C.W.s₀.gens ∧ s.drawn = C.W.s₀.drawn ∧ s.os = C.W.s₀.os
  fresh : ∀ a, C.D σ a → C.W.s₀.heap.objs.size ≤ a
  larger : C.W.s₀.heap.objs.size ≤ s.heap.objs.size
  sim : ∀ a c, σ a = some c → CellAt C.W.w.params s.heap (C.D σ) a c
  apart : ∀ a, C.own a ∨ C.B a → σ a = none
  apart2 : ∀ a, C.own a → ¬ C.B a
  old : ∀ a, C.own a ∨ C.B a → ∃ o, s.heap.get? a = some o

structure FrOK (C : Cx) (σ : View) (ls : Ls) (h : Heap) : Prop where
  kind : C.env.scope.kind = .function
  glob : C.env.globals = mainGlobals
  blt : C.env.builtins = builtinsNs
  ns : ∃ m, h.Ns C.env.locals m
  ownL : C.own C.env.locals
  cells : ∀ x c, C.env.cells.lookup x = some c → (C.own c ∨ C.B c) ∧ c ≠ C.env.locals ∧ ∃ v, h.IsCell c v
  inj : ∀ x y c, C.env.cells.lookup x = some c → C.env.cells.lookup y = some c → x = y
  val : ∀ i x d, C.vars[i]? = some x → (C.env.kindOf x = some .local ∨ C.env.kindOf x = some .cell ∨ C.env.kindOf x = some .free) → ls i = some d → ∃ v, HasVal h C.env x v ∧ Real h (C.D σ) v d
  nodup : C.vars.Nodup
  has : ∀ x, (C.env.kindOf x = some .cell ∨ C.env.kindOf x = some .free) → ∃ c, C.env.cells.lookup x = some c

structure Good (C : Cx) (σ : View) (ls : Ls) (s : Shared) : Prop extends Ground C σ s where
  fr : FrOK C σ ls s.heap

theorem Ground.there {C : Cx} {σ : View} {s : Shared} (G : Ground C σ s) {a : Addr} (h : C.D σ a) : ∃ o, s.heap.get? a = some o := by
  rcases h with h | h
  · cases q : σ a with
    | none => exact absurd q h
    | some c =>
      have := G.sim a c q
      cases c with
      | list _ xs => obtain ⟨_, _, e, _⟩ := this; exact ⟨_, e⟩
      | dict _ es => obtain ⟨_, _, e, _⟩ := this; exact ⟨_, e⟩
      | inst c d => exact ⟨_, this⟩
      | attrs fs => obtain ⟨_, _, e, _⟩ := this; exact ⟨_, e⟩
  · exact G.old a h
theorem Ground.lt {C : Cx} {σ : View} {s : Shared} (G : Ground C σ s) {a : Addr} (h : C.D σ a) : a < s.heap.objs.size := let ⟨_, e⟩ := G.there h; Heap.lt_size e

theorem Ground.leaves {C : Cx} {σ σ' : View} {s : Shared} {h' : Heap} (_G : Ground C σ s) (S : Step C.own s.heap σ h' σ') : Leaves s.heap (C.D σ) h' (C.D σ') := fun b o e hd => by
  have h1 : σ b = none := by
    cases q : σ b with
    | none => rfl
    | some c => exact absurd (.inl (not_some q)) hd
  have h2 : ¬ C.own b := fun h => hd (.inr (.inl h))
  refine ⟨S.keep b o e (Rw.of_none h1) h2, ?_⟩
  rintro (h | h)
  · exact h (S.none (Heap.lt_size e) h1)
  · exact hd (.inr h)

theorem Ground.toks {C : Cx} {σ : View} {s : Shared} (G : Ground C σ s) (t : Nat) : Ground C σ { s with toks := t } := ⟨G.stays, G.same, G.fresh, G.larger, G.sim, G.apart, G.apart2, G.old⟩
theorem Good.toks {C : Cx} {σ : View} {ls : Ls} {s : Shared} (G : Good C σ ls s) (t : Nat) : Good C σ ls { s with toks := t } := ⟨G.toGround.toks t, G.fr⟩

/-! the heap never shrinks -/
theorem Runs.size_le {M : Model} {Γ : Ctx} {p : Pos} {t : Sem Fin} {fs : List Frame} {s s' : Shared} {e : End} (h : Runs M Γ p t fs s e s') : s.heap.objs.size ≤ s'.heap.objs.size := by
  induction h <;> (try simp only [Shared.setGen, Heap.size_push, Heap.size_after_update] at *) <;> omega
theorem Wakes.size_le {M : Model} {Γ : Ctx} {p : Pos} {g : Nat} {r : Resume} {s s' : Shared} {res : GenResult} (h : Wakes M Γ p g r s res s') : s.heap.objs.size ≤ s'.heap.objs.size := by
  unfold Wakes at h
  split at h
  · exact h.elim
  · split at h
    · obtain ⟨e₁, s₁, hr, _, _, rfl⟩ := h; exact (Runs.size_le hr : (s.setGen g .running).heap.objs.size ≤ s₁.heap.objs.size)
    · rw [h.2]; exact Nat.le_refl _
    · rw [h.2]; exact Nat.le_refl _
  · obtain ⟨e₁, s₁, hr, _, _, rfl⟩ := h; exact (Runs.size_le hr : (s.setGen g .running).heap.objs.size ≤ s₁.heap.objs.size)
  · rw [h.2]; exact Nat.le_refl _
  · rw [h.2]; exact Nat.le_refl _
theorem wp_size {α : Type} (M : Model) (Γ : Ctx) (n : Nat) (t : Sem α) : ∀ (Q : α → Pos → Shared → Prop) (E : Value → Pos → Shared → Prop) (p : Pos) (s : Shared), n ≤ s.heap.objs.size → Sem.wp M Γ t Q E p s →
    Sem.wp M Γ t (fun a p' s' => n ≤ s'.heap.objs.size ∧ Q a p' s') (fun e p' s' => n ≤ s'.heap.objs.size ∧ E e p' s') p s := by
  induction t with
  | pure a => intro Q E p s hn h; exact ⟨hn, h⟩
  | raise e => intro Q E p s hn h; exact ⟨hn, h⟩
  | unsupported _ => intro Q E p s _ h; exact h
  | finish _ => intro Q E p s _ h; exact h
  | rule _ k ih => intro Q E p s hn h; exact ih () Q E p s hn h
  | «at» p' k ih => intro Q E p s hn h; exact ih () Q E p' s hn h
  | load a _ k ih => intro Q E p s hn h; obtain ⟨o, ho, h⟩ := h; exact ⟨o, ho, ih o Q E p s hn h⟩
  | update a _ f k ih => intro Q E p s hn h; exact ⟨h.1, ih () Q E p _ (by rw [Heap.size_after_update]; exact hn) h.2⟩
  | loadIfAlive a k ih => intro Q E p s hn h; exact ih _ Q E p s hn h
  | point _ k ih => intro Q E p s hn h; exact ih () Q E p s hn h
  | register _ _ => intro Q E p s _ h; exact h
  | alloc o k ih => intro Q E p s hn h; exact ih _ Q E p _ (by rw [Heap.size_push]; omega) h
  | fresh k ih => intro Q E p s hn h; exact ih _ Q E p _ hn h
  | ask k ih => intro Q E p s hn h; exact ih _ Q E p s hn h
  | choose src m k ih => intro Q E p s hn h; exact ⟨h.1, ih _ Q E p _ hn h.2⟩
  | os q _ k ih => intro Q E p s hn h; exact ih _ Q E p _ hn h
  | call c hd _ _ k ih => intro Q E p s hn h; obtain ⟨r, s', hr, h⟩ := h; exact ⟨r, s', hr, ih r Q E p s' (Nat.le_trans hn (Runs.size_le hr)) h⟩
  | handled own k ih => intro Q E p s hn h; exact ih _ Q E p s hn h
  | genState g k ih => intro Q E p s hn h; obtain ⟨st, hs, h⟩ := h; exact ⟨st, hs, ih _ Q E p s hn h⟩
  | newGen c k ih => intro Q E p s hn h; exact ih _ Q E p _ hn h
  | resume g r _ k ih => intro Q E p s hn h; obtain ⟨res, s', hw, h⟩ := h; exact ⟨res, s', hw, ih res Q E p s' (Nat.le_trans hn (Wakes.size_le hw)) h⟩
  | yield _ _ _ _ => intro Q E p s _ h; exact h
  | stack k ih => intro Q E p s hn h; exact ih _ Q E p s hn h
  | fork _ _ => intro Q E p s _ h; exact h
  | thread k ih => intro Q E p s hn h; exact ih _ Q E p s hn h
  | await _ _ _ _ _ => intro Q E p s _ h; exact h
theorem wpAny_size {α : Type} {M : Model} {A : Around} {s : Shared} {t : Sem α} {Q : α → Shared → Prop} {E : Value → Shared → Prop} (h : wpAny M A t Q E s) :
    wpAny M A t (fun a s' => s.heap.objs.size ≤ s'.heap.objs.size ∧ Q a s') (fun e s' => s.heap.objs.size ≤ s'.heap.objs.size ∧ E e s') s :=
  fun Γ p hΓ => wp_size M Γ _ t _ _ p s (Nat.le_refl _) (h Γ p hΓ)
end Mine
end

section
open PySem PyProof.Rows
namespace Mine

/-! the mini syntax -/
inductive Op where
  | add | sub | mul | div | mod | pow | neg
  | eq | ne | lt | le | gt | ge | isIn | notIn | is | isNot
  | len | isinst (t : String) | list | listM | tuple | dict | dictF | all | max2 | min2 | maxL | minL | sorted | int | str
  | append | extend | popL | popD | popD2 | get | clearL | clearD | join
  | item | slice (lo hi : Bool) | rev
  | mkTup | mkList | mkListM
  deriving DecidableEq

/-- a target: one name, or two -/
inductive Tg where
  | one (i : Nat)
  | two (i j : Nat)
noncomputable def fstV : V → V
  | .tup [p, _] => p
  | _ => .none
noncomputable def sndV : V → V
  | .tup [_, q] => q
  | _ => .none
noncomputable def Tg.up (t : Tg) (v : V) (ls : Ls) : Ls := match t with
  | .one i => ls.set i v
  | .two i j => (ls.set i (fstV v)).set j (sndV v)

mutual
inductive ME where
  | var (i : Nat)
  | lit (d : V)
  | gcon (k : Nat)
  | op (o : Op) (args : MEs)
  | meth (o : Op) (obj : ME) (args : MEs)
  | dict (m : Bool) (ks : List Int) (vs : MEs)
  | and (es : MEs)
  | or (es : MEs)
  | not (e : ME)
  | cmp2 (o1 o2 : Op) (a b c : ME)
  | call (f : Nat) (args : MEs)
  | comp (m : Bool) (elt : ME) (x : Tg) (it : MI) (ifs : MEs)
  | frz (e : ME)
inductive MEs where
  | nil
  | cons (e : ME) (es : MEs)
inductive MI where
  | seq (e : ME)
  | range (es : MEs)
  | enum (es : MEs)
end

mutual
inductive MS where
  | assign (i : Nat) (e : ME)
  | setSub (o k e : ME)
  | expr (e : ME)
  | ite (t : ME) (a b : MSs)
  | loop (t : ME) (b : MSs)
  | for1 (i : Tg) (it : MI) (b : MSs)
  | ret (e : ME)
  | freeze (i : Nat)
inductive MSs where
  | nil
  | cons (s : MS) (r : MSs)
end

/-! reading data -/
noncomputable def lstOf (σ : View) : V → Option (List V)
  | .lst xs => some xs
  | .ref a => match σ a with | some (.list _ xs) => some xs | _ => none
  | _ => none
noncomputable def seqOf (σ : View) : V → Option (List V)
  | .tup xs => some xs
  | v => lstOf σ v
noncomputable def dicOf (σ : View) : V → Option (List (Int × V))
  | .dct es => some es
  | .ref a => match σ a with | some (.dict _ es) => some es | _ => none
  | _ => none
noncomputable def charsOf (s : Str) : List V := s.cps.toList.map fun c => V.str ⟨#[c]⟩
noncomputable def itemsOf (σ : View) : V → Option (List V)
  | .str s => some (charsOf s)
  | v => match seqOf σ v with
    | some xs => some xs
    | none => (dicOf σ v).map fun es => es.map fun p => V.int p.1
noncomputable def listItems (σ : View) : V → Option (List V)
  | .str _ => none
  | v => itemsOf σ v
noncomputable def lenOf (σ : View) (v : V) : Option Nat := (itemsOf σ v).map List.length

noncomputable def lookD {α : Type} (k : Int) : List (Int × α) → Option α
  | [] => none
  | (j, v) :: r => if j = k then some v else lookD k r
noncomputable def putD {α : Type} (k : Int) (v : α) : List (Int × α) → List (Int × α)
  | [] => [(k, v)]
  | (j, w) :: r => if j = k then (j, v) :: r else (j, w) :: putD k v r
noncomputable def dropD {α : Type} (k : Int) : List (Int × α) → List (Int × α)
  | [] => []
  | (j, w) :: r => if j = k then r else (j, w) :: dropD k r

/-- as data, through the view's lists; at most n deep -/
noncomputable def V.toD (σ : View) : Nat → V → Option PyData
  | _, .none => some .none
  | _, .bool b => some (.bool b)
  | _, .int i => some (.int i)
  | _, .str s => some (.str s)
  | n + 1, .tup xs => (xs.mapM (V.toD σ n)).map .tuple
  | n + 1, .lst xs => (xs.mapM (V.toD σ n)).map .list
  | n + 1, .ref a => match σ a with | some (.list _ xs) => (xs.mapM (V.toD σ n)).map .list | _ => Option.none
  | _, _ => Option.none

noncomputable def truthV : V → Option Bool
  | .none => some false
  | .bool b => some b
  | _ => none

noncomputable def isType : String → V → Option Bool
  | "int", .int _ => some true
  | "int", .bool _ => some true
  | "bool", .bool _ => some true
  | "str", .str _ => some true
  | "tuple", .tup _ => some true
  | "list", .lst _ => some true
  | "dict", .dct _ => some true
  | _, .ref _ => none
  | _, .raw _ => none
  | _, _ => some false
noncomputable def isTypeV (σ : View) (t : String) : V → Option Bool
  | .ref a => match σ a with
    | some (.list _ _) => some (t == "list")
    | some (.dict _ _) => some (t == "dict")
    | _ => none
  | v => isType t v

noncomputable abbrev Post := V → View → Prop

noncomputable def sameSingle : V → V → Option Bool
  | .none, .none => some true
  | .bool a, .bool b => some (a == b)
  | .raw _, _ => none
  | _, .none => some false
  | _, .bool _ => some false
  | _, _ => none

noncomputable def eqD (σ : View) (x y : V) : Option Bool := match x.toD σ 20, y.toD σ 20 with
  | some a, some b => some (PyData.eqv a b)
  | _, _ => none
noncomputable def eqAll (σ : View) (b : List (Int × V)) : List (Int × V) → Option Bool
  | [] => some true
  | (k, v) :: r => match lookD k b with
    | none => some false
    | some w => (eqD σ v w).bind fun e => (eqAll σ b r).map fun t => e && t
noncomputable def eqDict (σ : View) (a b : List (Int × V)) : Option Bool := if a.length = b.length then eqAll σ b a else some false

noncomputable def eqV (σ : View) (x y : V) : Option Bool :=
  match x, y with
  | .int a, .int b => some (decide (a = b))
  | .str a, .str b => some (decide (a = b))
  | x, y => match x.toD σ 20, y.toD σ 20 with
    | some a, some b => some (PyData.eqv a b)
    | _, _ => match dicOf σ x, dicOf σ y with
      | some a, some b => eqDict σ a b
      | _, _ => none

noncomputable def ordV (f : Int → Int → Bool) (g : Str → Str → Bool) : List V → Option V
  | [.int a, .int b] => some (.bool (f a b))
  | [.str a, .str b] => some (.bool (g a b))
  | _ => none

noncomputable def clipI (n : Nat) (i : Int) : Nat := if i < 0 then (i + n).toNat else min i.toNat n
noncomputable def sliceL {α : Type} (xs : List α) (lo : Int) (hi : Option Int) : List α := (xs.take (hi.elim xs.length (clipI xs.length))).drop (clipI xs.length lo)

noncomputable def strLe (a b : Str) : Bool := !(decide (b.cps.toList < a.cps.toList))

noncomputable def idxOf (i : Int) (n : Nat) : Option Nat := if 0 ≤ i then (if i < n then some i.toNat else none) else (if -(n : Int) ≤ i then some (i + n).toNat else none)

noncomputable def big : Nat := 2 ^ 24
noncomputable def smallI (i : Int) : Bool := decide (-(2 ^ 62) < i) && decide (i < 2 ^ 62)

noncomputable def inV (σ : View) : V → V → Option Bool
  | .int k, d => (dicOf σ d).map fun es => (lookD k es).isSome
  | _, _ => none

noncomputable def sliceV (σ : View) (x : V) (a : Int) (b : Option Int) : Option V :=
  match x with
  | .str s => some (.str ⟨(sliceL s.cps.toList a b).toArray⟩)
  | .tup xs => some (.tup (sliceL xs a b))
  | x => (lstOf σ x).map fun xs => .lst (sliceL xs a b)

noncomputable def itemV (σ : View) : V → V → Option V
  | .str s, .int i => (idxOf i s.length).bind fun j => s.cps.toList[j]?.map fun c => .str ⟨#[c]⟩
  | x, .int i => match seqOf σ x with
    | some xs => (idxOf i xs.length).bind fun j => xs[j]?
    | none => (dicOf σ x).bind fun es => lookD i es
  | _, _ => none

noncomputable def addV (σ : View) : V → V → Option V
  | .int a, .int b => some (.int (a + b))
  | x, y => match lstOf σ x, lstOf σ y with
    | some a, some b => if a.length + b.length ≤ big then some (.lst (a ++ b)) else none
    | _, _ => none

noncomputable def mulFits (a b : Int) : Bool := !(decide (Builtin.Int.intBits a > shortFactorBits) && decide (Builtin.Int.intBits b > shortFactorBits) && Builtin.Int.intTooBig (Builtin.Int.intBits a + Builtin.Int.intBits b))

noncomputable def mulV (_σ : View) : V → V → Option V
  | .int a, .int b => if mulFits a b then some (.int (a * b)) else none
  | _, _ => none

noncomputable def on1 (f : V → Option V) : List V → Option V
  | [x] => f x
  | _ => none
noncomputable def on2 (f : V → V → Option V) : List V → Option V
  | [x, y] => f x y
  | _ => none
noncomputable def on3 (f : V → V → V → Option V) : List V → Option V
  | [x, y, z] => f x y z
  | _ => none
noncomputable def int1 (f : Int → Option V) : V → Option V
  | .int a => f a
  | _ => none
noncomputable def int2 (f : Int → Int → Option V) (x y : V) : Option V := int1 (fun a => int1 (f a) y) x
noncomputable def bool1 (f : Bool → Option V) : V → Option V
  | .bool a => f a
  | _ => none
noncomputable def str1 (f : Str → Option V) : V → Option V
  | .str a => f a
  | _ => none
/-- what an operation without effects gives -/
noncomputable def pureOp (o : Op) (σ : View) (vs : List V) : Option V :=
  match o with
  | .add => on2 (addV σ) vs
  | .sub => on2 (int2 fun a b => some (.int (a - b))) vs
  | .mul => on2 (mulV σ) vs
  | .div => on2 (int2 fun a b => if 0 < b ∧ b < 2 ^ 29 then some (.int (a / b)) else none) vs
  | .mod => on2 (int2 fun a b => if 0 < b then some (.int (a % b)) else none) vs
  | .pow => on2 (int2 fun a b => if 1 < a ∧ a ≤ 10 ∧ 0 < b ∧ b ≤ 100 then some (.int (a ^ b.toNat)) else none) vs
  | .eq => on2 (fun x y => (eqV σ x y).map .bool) vs
  | .ne => on2 (fun x y => (eqV σ x y).map fun b => .bool (!b)) vs
  | .lt => ordV (fun a b => decide (a < b)) (fun a b => !strLe b a) vs
  | .isIn => on2 (fun x y => (inV σ x y).map .bool) vs
  | .isNot => on2 (fun x y => (sameSingle x y).map fun b => .bool (!b)) vs
  | .len => on1 (fun x => (lenOf σ x).map fun (n : Nat) => V.int (n : Int)) vs
  | .isinst t => on1 (fun x => (isTypeV σ t x).map .bool) vs
  | .list => on1 (fun x => (listItems σ x).map .lst) vs
  | .dictF => on1 (fun x => (dicOf σ x).map .dct) vs
  | .item => on2 (itemV σ) vs
  | .slice lo hi => if lo then (if hi then on3 (fun x => int2 fun a b => sliceV σ x a (some b)) vs else on2 (fun x => int1 fun a => sliceV σ x a none) vs) else (if hi then on2 (fun x => int1 fun b => sliceV σ x 0 (some b)) vs else none)
  | .mkTup => if vs.length ≤ 1000 then some (.tup vs) else none
  | .mkList => if vs.length ≤ 1000 then some (.lst vs) else none
  | _ => none
theorem on1_some {f : V → Option V} {vs : List V} {d : V} (h : on1 f vs = some d) : ∃ x, vs = [x] ∧ f x = some d := by
  unfold on1 at h; split at h
  · exact ⟨_, rfl, h⟩
  · cases h
theorem on2_some {f : V → V → Option V} {vs : List V} {d : V} (h : on2 f vs = some d) : ∃ x y, vs = [x, y] ∧ f x y = some d := by
  unfold on2 at h; split at h
  · exact ⟨_, _, rfl, h⟩
  · cases h
theorem on3_some {f : V → V → V → Option V} {vs : List V} {d : V} (h : on3 f vs = some d) : ∃ x y z, vs = [x, y, z] ∧ f x y z = some d := by
  unfold on3 at h; split at h
  · exact ⟨_, _, _, rfl, h⟩
  · cases h
theorem int1_some {f : Int → Option V} {x d : V} (h : int1 f x = some d) : ∃ a, x = .int a ∧ f a = some d := by
  unfold int1 at h; split at h
  · exact ⟨_, rfl, h⟩
  · cases h
theorem int2_some {f : Int → Int → Option V} {x y d : V} (h : int2 f x y = some d) : ∃ a b, x = .int a ∧ y = .int b ∧ f a b = some d := by
  obtain ⟨a, e1, h⟩ := int1_some h
  obtain ⟨b, e2, h⟩ := int1_some h
  exact ⟨a, b, e1, e2, h⟩
/-- the operations with effects, and the others -/
noncomputable def prim (o : Op) (vs : List V) (Q : Post) (σ : View) : Prop :=
  match o with
  | .dict => match vs with
    | [x] => ∃ es, dicOf σ x = some es ∧ ∀ a, σ a = none → Q (.ref a) (σ.upd a (.dict false es))
    | _ => False
  | .append => match vs with
    | [.ref a, x] => ∃ xs, σ a = some (.list false xs) ∧ xs.length < big ∧ Q .none (σ.upd a (.list false (xs ++ [x])))
    | _ => False
  | .popD => match vs with
    | [.ref a, .int k] => ∃ es x, σ a = some (.dict false es) ∧ lookD k es = some x ∧ Q x (σ.upd a (.dict false (dropD k es)))
    | _ => False
  | .popD2 => match vs with
    | [.ref a, .int k, d] => ∃ es, σ a = some (.dict false es) ∧ Q ((lookD k es).getD d) (σ.upd a (.dict false (dropD k es)))
    | _ => False
  | .mkListM => vs.length ≤ 1000 ∧ ∀ a, σ a = none → Q (.ref a) (σ.upd a (.list false vs))
  | o => ∃ d, pureOp o σ vs = some d ∧ Q d σ

/-- the object a method is looked up in -/
noncomputable def methOk (o : Op) (x : V) (σ : View) : Prop := match o with
  | .append | .extend | .popL | .clearL => ∃ l ro xs, x = .ref l ∧ σ l = some (.list ro xs)
  | .get | .popD | .popD2 | .clearD => ∃ es, dicOf σ x = some es
  | .join => ∃ z, x = .str z
  | _ => False

noncomputable abbrev Spec := Nat → List V → Post → View → Prop

noncomputable def rangeL (a b c : Int) : List Int := if 0 < c then (List.range (((b - a) + c - 1) / c).toNat).map fun (k : Nat) => a + c * k else (List.range (((a - b) + (-c) - 1) / (-c)).toNat).map fun (k : Nat) => a + c * k

noncomputable def rangeXs : List V → Option (List V)
  | [.int b] => if smallI b then some ((rangeL 0 b 1).map .int) else none
  | _ => none
noncomputable def enumV (i : Nat) (x : V) : V := .tup [.int (i : Nat), x]
/-- what a loop goes through: 0 a value's items, 1 a range, 2 enumerate -/
noncomputable def itXs (k : Nat) (σ : View) (vs : List V) : Option (List V) :=
  match k with
  | 0 => match vs with
    | [x] => itemsOf σ x
    | _ => none
  | 1 => rangeXs vs
  | 2 => match vs with
    | [x] => (lstOf σ x).map fun xs => xs.mapIdx enumV
    | _ => none
  | _ => none
/-- while it is gone through, it is only read -/
noncomputable def lockV (σ : View) : List V → View
  | [.ref a] => match σ a with
    | some c => σ.upd a c.lock
    | none => σ
  | _ => σ
noncomputable def unlockV (σ₀ : View) (vs : List V) (σ : View) : View := match vs with
  | [.ref a] => match σ₀ a, σ a with
    | some (.list r xs), some _ => σ.upd a (.list r xs)
    | some (.dict r es), some _ => σ.upd a (.dict r es)
    | _, _ => σ
  | _ => σ
noncomputable def itWp (k : Nat) (vs : List V) (Q : List V → List V → View → Prop) (σ : View) : Prop := ∃ xs, itXs k σ vs = some xs ∧ Q xs vs σ

mutual
noncomputable def ewp (Φ : Spec) (G : Nat → V) (ls : Ls) : ME → Post → View → Prop
  | .var i, Q, σ => ∃ d, ls i = some d ∧ Q d σ
  | .lit d, Q, σ => Q d σ
  | .gcon k, Q, σ => Q (G k) σ
  | .op o args, Q, σ => ewps Φ G ls args (fun vs σ' => prim o vs Q σ') σ
  | .meth o obj args, Q, σ => ewp Φ G ls obj (fun x σ₁ => methOk o x σ₁ ∧ ewps Φ G ls args (fun vs σ₂ => prim o (x :: vs) Q σ₂) σ₁) σ
  | .dict m ks vs, Q, σ => ewps Φ G ls vs (fun vv σ₂ => ks.Nodup ∧ ks.length = vv.length ∧ (if m then ∀ a, σ₂ a = none → Q (.ref a) (σ₂.upd a (.dict false (ks.zip vv))) else Q (.dct (ks.zip vv)) σ₂)) σ
  | .and es, Q, σ => ewpAnd Φ G ls es Q σ
  | .or es, Q, σ => ewpOr Φ G ls es Q σ
  | .not e, Q, σ => ewp Φ G ls e (fun d σ' => ∃ b, truthV d = some b ∧ Q (.bool (!b)) σ') σ
  | .cmp2 o1 o2 a b c, Q, σ => ewp Φ G ls a (fun x σ₁ => ewp Φ G ls b (fun y σ₂ => prim o1 [x, y] (fun r σ₃ => ∃ t, truthV r = some t ∧ (if t then ewp Φ G ls c (fun z σ₄ => prim o2 [y, z] Q σ₄) σ₃ else Q r σ₃)) σ₂) σ₁) σ
  | .call f args, Q, σ => ewps Φ G ls args (fun vs σ' => Φ f vs Q σ') σ
  | .comp m elt x it ifs, Q, σ => ewpI Φ G ls it (fun xs u σ₁ => xs.length ≤ big ∧ ∃ I : Nat → List V → View → Prop, I 0 [] (lockV σ₁ u) ∧
      (∀ k v acc σ₂, xs[k]? = some v → I k acc σ₂ → ewpIfs Φ G (x.up v ls) ifs (fun b σ₃ => if b then ewp Φ G (x.up v ls) elt (fun d σ₄ => I (k + 1) (acc ++ [d]) σ₄) σ₃ else I (k + 1) acc σ₃) σ₂) ∧
      (∀ acc σ₂, I xs.length acc σ₂ → if m then ∀ a, unlockV σ₁ u σ₂ a = none → Q (.ref a) ((unlockV σ₁ u σ₂).upd a (.list false acc)) else Q (.lst acc) (unlockV σ₁ u σ₂))) σ
  | .frz e, Q, σ => ewp Φ G ls e (fun d σ' => ∃ a, d = .ref a ∧ ((∃ xs, σ' a = some (.list false xs) ∧ Q (.lst xs) (σ'.del a)) ∨ (∃ es, σ' a = some (.dict false es) ∧ Q (.dct es) (σ'.del a)))) σ
noncomputable def ewps (Φ : Spec) (G : Nat → V) (ls : Ls) : MEs → (List V → View → Prop) → View → Prop
  | .nil, Q, σ => Q [] σ
  | .cons e es, Q, σ => ewp Φ G ls e (fun v σ' => ewps Φ G ls es (fun vs σ'' => Q (v :: vs) σ'') σ') σ
noncomputable def ewpAnd (Φ : Spec) (G : Nat → V) (ls : Ls) : MEs → Post → View → Prop
  | .nil, _, _ => False
  | .cons e .nil, Q, σ => ewp Φ G ls e Q σ
  | .cons e es, Q, σ => ewp Φ G ls e (fun d σ' => ∃ b, truthV d = some b ∧ (if b then ewpAnd Φ G ls es Q σ' else Q d σ')) σ
noncomputable def ewpOr (Φ : Spec) (G : Nat → V) (ls : Ls) : MEs → Post → View → Prop
  | .nil, _, _ => False
  | .cons e .nil, Q, σ => ewp Φ G ls e Q σ
  | .cons e es, Q, σ => ewp Φ G ls e (fun d σ' => ∃ b, truthV d = some b ∧ (if b then Q d σ' else ewpOr Φ G ls es Q σ')) σ
noncomputable def ewpIfs (Φ : Spec) (G : Nat → V) (ls : Ls) : MEs → (Bool → View → Prop) → View → Prop
  | .nil, Q, σ => Q true σ
  | .cons e es, Q, σ => ewp Φ G ls e (fun d σ' => ∃ b, truthV d = some b ∧ (if b then ewpIfs Φ G ls es Q σ' else Q false σ')) σ
noncomputable def ewpI (Φ : Spec) (G : Nat → V) (ls : Ls) : MI → (List V → List V → View → Prop) → View → Prop
  | .seq e, Q, σ => ewp Φ G ls e (fun d σ' => itWp 0 [d] Q σ') σ
  | .range es, Q, σ => ewps Φ G ls es (fun vs σ' => itWp 1 vs Q σ') σ
  | .enum es, Q, σ => ewps Φ G ls es (fun vs σ' => itWp 2 vs Q σ') σ
end

/-- a test, as `if` and `while` ask it -/
noncomputable def twp (Φ : Spec) (G : Nat → V) (ls : Ls) (e : ME) (Q : Bool → View → Prop) (σ : View) : Prop := ewp Φ G ls e (fun d σ' => ∃ b, truthV d = some b ∧ Q b σ') σ

mutual
noncomputable def swp (Φ : Spec) (G : Nat → V) : MS → (View → Ls → Prop) → Post → View → Ls → Prop
  | .assign i e, Q, _, σ, ls => ewp Φ G ls e (fun d σ' => Q σ' (ls.set i d)) σ
  | .setSub o k e, Q, _, σ, ls => ewp Φ G ls e (fun d σ₁ => ewp Φ G ls o (fun x σ₂ => ewp Φ G ls k (fun y σ₃ => ∃ a j es, x = .ref a ∧ y = .int j ∧ σ₃ a = some (.dict false es) ∧ es.length < big ∧ Q (σ₃.upd a (.dict false (putD j d es))) ls) σ₂) σ₁) σ
  | .expr e, Q, _, σ, ls => ewp Φ G ls e (fun _ σ' => Q σ' ls) σ
  | .ite t a b, Q, R, σ, ls => twp Φ G ls t (fun c σ' => if c then swps Φ G a Q R σ' ls else swps Φ G b Q R σ' ls) σ
  | .loop t b, Q, R, σ, ls => ∃ I : Nat → View → Ls → Prop, (∃ n, I n σ ls) ∧
      ∀ n σ₁ ls₁, I n σ₁ ls₁ → twp Φ G ls₁ t (fun c σ₂ => if c then swps Φ G b (fun σ₃ ls₃ => ∃ m, m < n ∧ I m σ₃ ls₃) R σ₂ ls₁ else Q σ₂ ls₁) σ₁
  | .for1 i it b, Q, R, σ, ls => ewpI Φ G ls it (fun xs u σ₁ => ∃ I : Nat → View → Ls → Prop, I 0 (lockV σ₁ u) ls ∧
      (∀ k v σ₂ ls₂, xs[k]? = some v → I k σ₂ ls₂ → swps Φ G b (fun σ₃ ls₃ => I (k + 1) σ₃ ls₃) (fun d σ₃ => R d (unlockV σ₁ u σ₃)) σ₂ (i.up v ls₂)) ∧
      (∀ σ₂ ls₂, I xs.length σ₂ ls₂ → Q (unlockV σ₁ u σ₂) ls₂)) σ
  | .ret e, _, R, σ, ls => ewp Φ G ls e R σ
  | .freeze i, Q, _, σ, ls => ∃ a, ls i = some (.ref a) ∧ ((∃ xs, σ a = some (.list false xs) ∧ Q (σ.del a) (ls.set i (.lst xs))) ∨ (∃ es, σ a = some (.dict false es) ∧ Q (σ.del a) (ls.set i (.dct es))))
noncomputable def swps (Φ : Spec) (G : Nat → V) : MSs → (View → Ls → Prop) → Post → View → Ls → Prop
  | .nil, Q, _, σ, ls => Q σ ls
  | .cons s r, Q, R, σ, ls => swp Φ G s (fun σ' ls' => swps Φ G r Q R σ' ls') R σ ls
end
end Mine
end

section
open PySem PyProof.Rows
namespace Mine

/-- from this state the tree ends well, the frame's good state kept -/
noncomputable def TrE (C : Cx) (ls : Ls) {α : Type} (t : Sem α) (Q : α → View → Shared → Prop) (σ : View) (s : Shared) : Prop :=
  wpAny (model C.W.prog C.W.w) C.A t (fun a s' => ∃ σ', Good C σ' ls s' ∧ Step C.own s.heap σ s'.heap σ' ∧ Q a σ' s') (fun _ _ => False) s

section
variable {C : Cx} {ls : Ls} {α β : Type} {σ : View} {s : Shared}

theorem TrE.mono {t : Sem α} {Q Q' : α → View → Shared → Prop} (h : TrE C ls t Q σ s) (k : ∀ a σ' s', Good C σ' ls s' → Step C.own s.heap σ s'.heap σ' → Q a σ' s' → Q' a σ' s') : TrE C ls t Q' σ s :=
  wpAny_mono h (fun a s' ⟨σ', G, S, q⟩ => ⟨σ', G, S, k a σ' s' G S q⟩) fun _ _ x => x
/-- at the end of a tree -/
theorem TrE.end {Q : α → View → Shared → Prop} {a : α} (G : Good C σ ls s) (h : Q a σ s) : ∃ σ', Good C σ' ls s ∧ Step C.own s.heap σ s.heap σ' ∧ Q a σ' s := ⟨σ, G, Step.refl _ _ _, h⟩
theorem TrE.pure {Q : α → View → Shared → Prop} {a : α} (G : Good C σ ls s) (h : Q a σ s) : TrE C ls (pure a) Q σ s := wpAny_pure (TrE.end G h)
theorem TrE.bind {m : Sem α} {f : α → Sem β} {Q : β → View → Shared → Prop} (h : TrE C ls m (fun a σ' s' => TrE C ls (f a) Q σ' s') σ s) : TrE C ls (m >>= f) Q σ s :=
  wpAny_bind (wpAny_mono h (fun _ _ ⟨_, _, S, h'⟩ => wpAny_mono h' (fun _ _ ⟨σ'', G', S', q⟩ => ⟨σ'', G', S.trans S', q⟩) fun _ _ x => x) fun _ _ x => x)
theorem TrE.holding {vs : List Value} {m : Sem α} {Q : α → View → Shared → Prop} (h : TrE C ls m Q σ s) : TrE C ls (holding vs m) Q σ s := wpAny_holding h
theorem TrE.standAt {pos : Pos} {Q : Unit → View → Shared → Prop} (G : Good C σ ls s) (h : Q () σ s) : TrE C ls (standAt pos) Q σ s := wpAny_standAt (TrE.end G h)
theorem TrE.operate {vs : List Value} {m : Sem Value} {Q : Value → View → Shared → Prop} (h : TrE C ls m Q σ s) : TrE C ls (operate vs m) Q σ s := wpAny_operate' h
/-- a tree that changes nothing but tokens -/
theorem TrE.quiet {t : Sem α} {Q : α → View → Shared → Prop} (G : Good C σ ls s) (h : wpAny (model C.W.prog C.W.w) C.A t (fun a s' => (∃ tk, s' = { s with toks := tk }) ∧ Q a σ s') (fun _ _ => False) s) : TrE C ls t Q σ s :=
  wpAny_mono h (fun a s' ⟨⟨tk, e⟩, q⟩ => ⟨σ, by rw [e]; exact G.toks tk, by rw [e]; exact Step.refl _ _ _, q⟩) fun _ _ x => x

theorem Good.leaves {σ' : View} {h' : Heap} (G : Good C σ ls s) (S : Step C.own s.heap σ h' σ') : Leaves s.heap (C.D σ) h' (C.D σ') := G.toGround.leaves S
theorem Real.step {σ' : View} {h' : Heap} {v : Value} {x : V} (r : Real s.heap (C.D σ) v x) (G : Good C σ ls s) (S : Step C.own s.heap σ h' σ') : Real h' (C.D σ') v x := r.leaves (G.leaves S)
theorem Reals.step {σ' : View} {h' : Heap} {vs : List Value} {xs : List V} (r : Reals s.heap (C.D σ) vs xs) (G : Good C σ ls s) (S : Step C.own s.heap σ h' σ') : Reals h' (C.D σ') vs xs := r.leaves (G.leaves S)
end

/-- values read as data -/
noncomputable def RV (C : Cx) (Q : Post) : Value → View → Shared → Prop := fun v σ s => ∃ x, Real s.heap (C.D σ) v x ∧ Q x σ
theorem Reals.length {h : Heap} {D : Addr → Prop} : ∀ {vs : List Value} {xs : List V}, Reals h D vs xs → vs.length = xs.length
  | _, _, .nil => rfl
  | _, _, .cons _ r => by simp [Reals.length r]
theorem Reals.get {h : Heap} {D : Addr → Prop} : ∀ {vs : List Value} {xs : List V}, Reals h D vs xs → ∀ {i : Nat} {x : V}, xs[i]? = some x → ∃ v, vs[i]? = some v ∧ Real h D v x
  | _, _, .nil, _, _, e => by simp at e
  | _, _, .cons a _, 0, _, e => by simp at e; subst e; exact ⟨_, rfl, a⟩
  | _, _, .cons _ r, i + 1, _, e => by simpa using Reals.get r (by simpa using e)
theorem Reals.get' {h : Heap} {D : Addr → Prop} : ∀ {vs : List Value} {xs : List V}, Reals h D vs xs → ∀ {i : Nat} {v : Value}, vs[i]? = some v → ∃ x, xs[i]? = some x ∧ Real h D v x
  | _, _, .nil, _, _, e => by simp at e
  | _, _, .cons a _, 0, _, e => by simp at e; subst e; exact ⟨_, rfl, a⟩
  | _, _, .cons _ r, i + 1, _, e => by simpa using Reals.get' r (by simpa using e)
theorem Reals.append {h : Heap} {D : Addr → Prop} : ∀ {vs ws : List Value} {xs ys : List V}, Reals h D vs xs → Reals h D ws ys → Reals h D (vs ++ ws) (xs ++ ys)
  | _, _, _, _, .nil, k => k
  | _, _, _, _, .cons a r, k => .cons a (Reals.append r k)
theorem Reals.take {h : Heap} {D : Addr → Prop} : ∀ {vs : List Value} {xs : List V} (n : Nat), Reals h D vs xs → Reals h D (vs.take n) (xs.take n)
  | _, _, 0, _ => by simp; exact .nil
  | _, _, _ + 1, .nil => by simp; exact .nil
  | _, _, n + 1, .cons a r => by simp; exact .cons a (Reals.take n r)
theorem Reals.drop {h : Heap} {D : Addr → Prop} : ∀ {vs : List Value} {xs : List V} (n : Nat), Reals h D vs xs → Reals h D (vs.drop n) (xs.drop n)
  | _, _, 0, r => by simpa using r
  | _, _, _ + 1, .nil => by simp; exact .nil
  | _, _, n + 1, .cons _ r => by simpa using Reals.drop n r
theorem RealD.length {h : Heap} {D : Addr → Prop} : ∀ {es : List DictEntry} {xs : List (Int × V)}, RealD h D es xs → es.length = xs.length
  | _, _, .nil => rfl
  | _, _, .cons _ _ _ r => by simp [RealD.length r]

/-! new objects, changed objects -/
section
variable {C : Cx} {ls : Ls} {σ : View} {s : Shared}

theorem Good.newAddr (G : Good C σ ls s) : ¬ C.D σ s.heap.objs.size := fun h => absurd (G.toGround.lt h) (Nat.lt_irrefl _)
theorem HasVal.keeps {h h' : Heap} {env : Env} {x : Str} {v : Value} (k : ∀ b o, h.get? b = some o → h'.get? b = some o) : HasVal h env x v → HasVal h' env x v
  | .inl ⟨a, m, n, e⟩ => .inl ⟨a, m, n.keeps k, e⟩
  | .inr ⟨a, c, e, i⟩ => .inr ⟨a, c, e, i.keeps k⟩
theorem HasVal.at {h h' : Heap} {env : Env} {x : Str} {v : Value} (k : ∀ b, b = env.locals ∨ (∃ y, env.cells.lookup y = some b) → ∀ o, h.get? b = some o → h'.get? b = some o) : HasVal h env x v → HasVal h' env x v
  | .inl ⟨a, m, n, e⟩ => .inl ⟨a, m, n.at' (k _ (.inl rfl)), e⟩
  | .inr ⟨a, c, e, ⟨o, ho, hd⟩⟩ => .inr ⟨a, c, e, ⟨o, k c (.inr ⟨_, e⟩) o ho, hd⟩⟩

/-- the heap and the view change, the frame's own objects stay -/
theorem Good.change {σ' : View} {h' : Heap} {tk : Nat} (G : Good C σ ls s) (S : Step C.own s.heap σ h' σ')
    (own : ∀ b, C.own b → ∀ o, s.heap.get? b = some o → h'.get? b = some o)
    (sub : ∀ a, σ' a ≠ none → C.W.s₀.heap.objs.size ≤ a) (ap : ∀ a, C.own a ∨ C.B a → σ' a = none)
    (sim : ∀ a c, σ' a = some c → CellAt C.W.w.params h' (C.D σ') a c) : Good C σ' ls { s with heap := h', toks := tk } := by
  have keepOB : ∀ b, C.own b ∨ C.B b → ∀ o, s.heap.get? b = some o → h'.get? b = some o := fun b hb o e => by
    rcases hb with hb | hb
    · exact own b hb o e
    · exact S.keep b o e (Rw.of_none (G.apart b (.inr hb))) fun ho => G.apart2 b ho hb
  have L := G.leaves S
  refine ⟨⟨fun b o e => ?_, G.same, fun a h => ?_, Nat.le_trans G.larger S.size, sim, ap, G.apart2, fun a h => let ⟨o, e⟩ := G.old a h; ⟨o, keepOB a h o e⟩⟩, ?_⟩
  · have hd : ¬ C.D σ b := fun hd => absurd (Heap.lt_size e) (Nat.not_lt.mpr (G.fresh b hd))
    exact (L b o (G.stays b o e) hd).1
  · rcases h with h | h
    · exact sub a h
    · exact G.fresh a (.inr h)
  · have F := G.fr
    obtain ⟨m, hm⟩ := F.ns
    refine ⟨F.kind, F.glob, F.blt, ⟨m, hm.at' fun o e => keepOB _ (.inl F.ownL) o e⟩, F.ownL, fun x c e => ?_, F.inj, fun i x d e1 e2 e3 => ?_, F.nodup, F.has⟩
    · obtain ⟨h1, h2, v, o, ho, hv⟩ := F.cells x c e
      exact ⟨h1, h2, v, o, keepOB c h1 o ho, hv⟩
    · obtain ⟨v, hv, hr⟩ := F.val i x d e1 e2 e3
      refine ⟨v, hv.at fun b hb o e => ?_, hr.leaves L⟩
      rcases hb with rfl | ⟨y, hy⟩
      · exact keepOB _ (.inl F.ownL) o e
      · exact keepOB b (F.cells y b hy).1 o e

theorem CellAt.leaves {P : Params} {h h' : Heap} {D D' : Addr → Prop} {a : Addr} {c : Cell} (L : Leaves h D h' D') (e : ∀ o, h.get? a = some o → h'.get? a = some o) : CellAt P h D a c → CellAt P h' D' a c := by
  cases c with
  | list _ xs => rintro ⟨vs, n, ho, hz, r⟩; exact ⟨vs, n, e _ ho, hz, r.leaves L⟩
  | dict _ es => rintro ⟨ds, n, ho, hz, hn, r⟩; exact ⟨ds, n, e _ ho, hz, hn, r.leaves L⟩
  | inst c d => intro ho; exact e _ ho
  | attrs fs => rintro ⟨ds, n, ho, r⟩; exact ⟨ds, n, e _ ho, r.leaves L⟩

theorem Step.push (own : Addr → Prop) (h : Heap) (σ : View) (o : Obj) : Step own h σ (h.push o) σ := ⟨fun _ _ e _ _ => Heap.get?_push_of_some _ e, by rw [Heap.size_push]; omega, fun _ h1 h2 => absurd h2 h1, fun _ _ _ e _ => .inl e⟩

/-- a new object that the view does not hold -/
theorem Good.push (G : Good C σ ls s) (o : Obj) (tk : Nat) : Good C σ ls { s with heap := s.heap.push o, toks := tk } := by
  have S := Step.push C.own s.heap σ o
  exact G.change S (fun b _ o e => Heap.get?_push_of_some _ e) (fun a h => G.fresh a (.inl h)) G.apart
    fun a c e => (G.sim a c e).leaves (G.leaves S) fun o' e' => Heap.get?_push_of_some _ e'

theorem Step.setCell {own : Addr → Prop} {h h' : Heap} {σ : View} {a : Addr} {c c' : Cell} (e : σ a = some c) (hr : c.ro = false) (hs : Heap.SameBut a h h') : Step own h σ h' (σ.upd a c') :=
  ⟨fun b _ eb hb _ => (hs.2 b (by rintro rfl; exact hb ⟨c, e, hr⟩)).trans eb, Nat.le_of_eq hs.1.symm, fun b h1 h2 => by
    by_cases q : b = a
    · rw [q, e] at h2; cases h2
    · rw [upd_ne q] at h1; exact absurd h2 h1, fun b d _ eb hd => .inl (by
      have : b ≠ a := by rintro rfl; rw [e] at eb; cases eb; rw [hr] at hd; cases hd
      rw [upd_ne this]; exact eb)⟩

/-- an object that the view holds changes -/
theorem Good.setCell {a : Addr} {c c' : Cell} {h' : Heap} {tk : Nat} (G : Good C σ ls s) (e : σ a = some c) (hr : c.ro = false) (hs : Heap.SameBut a s.heap h')
    (hc : CellAt C.W.w.params h' (C.D (σ.upd a c')) a c') : Good C (σ.upd a c') ls { s with heap := h', toks := tk } := by
  have S := Step.setCell (own := C.own) (c' := c') e hr hs
  have na : ∀ b, C.own b ∨ C.B b → b ≠ a := fun b hb => by rintro rfl; have := G.apart b hb; rw [e] at this; cases this
  refine G.change S (fun b hb o eb => (hs.2 b (na b (.inl hb))).trans eb) (fun b h => ?_) (fun b h => ?_) fun b c₁ eb => ?_
  · by_cases q : b = a
    · rw [q]; exact G.fresh a (.inl (not_some e))
    · rw [upd_ne q] at h; exact G.fresh b (.inl h)
  · rw [upd_ne (na b h)]; exact G.apart b h
  · by_cases q : b = a
    · subst q; rw [upd_self] at eb; cases eb; exact hc
    · rw [upd_ne q] at eb
      exact (G.sim b c₁ eb).leaves (G.leaves S) fun o eo => (hs.2 b q).trans eo

theorem D_upd {a : Addr} {c c' : Cell} (e : σ a = some c) : C.D (σ.upd a c') = C.D σ := by
  funext b
  simp only [Cx.D]
  by_cases q : b = a
  · subst q; simp [e]
  · rw [upd_ne q]

/-- for a while an object is only read -/
theorem CellAt.lock {P : Params} {h : Heap} {D : Addr → Prop} {a : Addr} {c : Cell} : CellAt P h D a c.lock ↔ CellAt P h D a c := by cases c <;> exact Iff.rfl
/-- the view lets an object go: it is read as it is from now on -/
theorem Good.del {a : Addr} (G : Good C σ ls s) : Good C (σ.del a) ls s := by
  have sub : ∀ b, σ.del a b ≠ none → σ b ≠ none := fun b h => by
    by_cases q : b = a
    · subst q; simp at h
    · rwa [del_ne q] at h
  have S : Step C.own s.heap σ s.heap (σ.del a) := ⟨fun _ _ e _ _ => e, Nat.le_refl _, fun b h1 h2 => absurd h2 (sub b h1), fun b c _ e _ => by
    by_cases q : b = a
    · subst q; exact .inr (by simp)
    · exact .inl (by rw [del_ne q]; exact e)⟩
  have := G.change (tk := s.toks) S (fun _ _ _ e => e) (fun b h => G.fresh b (.inl (sub b h))) (fun b h => by
    cases e : σ.del a b with
    | none => rfl
    | some c => exact absurd (G.apart b h) (sub b (not_some e))) fun b c e => by
      have hb : b ≠ a := by rintro rfl; simp at e
      rw [del_ne hb] at e
      exact (G.sim b c e).leaves (G.leaves S) fun _ x => x
  exact this
theorem Step.del (own : Addr → Prop) (h : Heap) (σ : View) (a : Addr) : Step own h σ h (σ.del a) := ⟨fun _ _ e _ _ => e, Nat.le_refl _, fun b h1 h2 => by
  by_cases q : b = a
  · subst q; simp at h1
  · rw [del_ne q] at h1; exact absurd h2 h1, fun b c _ e _ => by
    by_cases q : b = a
    · subst q; exact .inr (by simp)
    · exact .inl (by rw [del_ne q]; exact e)⟩
theorem not_D_del {a : Addr} (G : Good C σ ls s) {c : Cell} (e : σ a = some c) : ¬ C.D (σ.del a) a := by
  rintro (h | h)
  · simp at h
  · have := G.apart a h; rw [e] at this; cases this
theorem Good.freezeL {a : Addr} {xs : List V} (G : Good C σ ls s) {ro : Bool} (e : σ a = some (.list ro xs)) : Real s.heap (C.D (σ.del a)) (.ref a) (.lst xs) := by
  obtain ⟨vs, n, ho, hz, r⟩ := G.sim a _ e
  exact .lst ho hz (not_D_del G e) (r.leaves (G.leaves (Step.del _ _ _ _)))
theorem Wd.Ok.two {W : Wd} (h : W.Ok) : 2 < W.s₀.heap.objs.size := by
  obtain ⟨mc, h1, _⟩ := h.top.nolimit
  exact h1.lt
theorem Good.freezeD {a : Addr} {es : List (Int × V)} (hW : C.W.Ok) (G : Good C σ ls s) {ro : Bool} (e : σ a = some (.dict ro es)) : Real s.heap (C.D (σ.del a)) (.ref a) (.dct es) := by
  obtain ⟨vs, n, ho, hz, hn, r⟩ := G.sim a _ e
  exact .dct ho hz hn (Nat.lt_of_lt_of_le hW.two (G.fresh a (.inl (not_some e)))) (not_D_del G e) (r.leaves (G.leaves (Step.del _ _ _ _)))
end
end Mine
end

section
open PySem PyProof.Rows
namespace Mine

/-- what the walks need of the context -/
structure Rm (C : Cx) : Prop where
  ok : C.W.Ok
  hh : C.A.handled = none
  units : C.A.units + 200 < cLine

/-- a tree gives a datum, the view as it was -/
noncomputable def Gives (C : Cx) (ls : Ls) (t : Sem Value) (d : V) (σ : View) (s : Shared) : Prop := TrE C ls t (fun v σ' s' => Real s'.heap (C.D σ') v d ∧ σ' = σ) σ s

section
variable {C : Cx} {ls : Ls} {σ : View} {s : Shared}

theorem Gives.then {t : Sem Value} {d : V} {Q : Post} (h : Gives C ls t d σ s) (q : Q d σ) : TrE C ls t (RV C Q) σ s :=
  TrE.mono h fun v σ' s' _ _ ⟨r, e⟩ => ⟨d, r, by rw [e]; exact q⟩
theorem Gives.quiet {t : Sem Value} {d : V} (G : Good C σ ls s) (h : wpAny (model C.W.prog C.W.w) C.A t (fun v s' => (∃ tk, s' = { s with toks := tk }) ∧ Real s.heap (C.D σ) v d) (fun _ _ => False) s) : Gives C ls t d σ s :=
  TrE.quiet G (wpAny_mono h (fun v s' ⟨⟨tk, e⟩, r⟩ => ⟨⟨tk, e⟩, by rw [e]; exact r, rfl⟩) fun _ _ x => x)
/-- a new object, read as it is -/
theorem Gives.new {t : Sem Value} {d : V} {o : Obj} (G : Good C σ ls s) (hd : Real (s.heap.push o) (C.D σ) (.ref s.heap.objs.size) d)
    (h : wpAny (model C.W.prog C.W.w) C.A t (fun v s' => v = .ref s.heap.objs.size ∧ ∃ tk, s' = { s with heap := s.heap.push o, toks := tk }) (fun _ _ => False) s) : Gives C ls t d σ s :=
  wpAny_mono h (fun v s' ⟨ev, tk, e⟩ => ⟨σ, by rw [e]; exact G.push o tk, by rw [e]; exact Step.push _ _ _ _, by rw [e, ev]; exact hd, rfl⟩) fun _ _ x => x
/-- the heap grows by what nobody reads -/
theorem Gives.grown {t : Sem Value} {d : V} (G : Good C σ ls s)
    (h : wpAny (model C.W.prog C.W.w) C.A t (fun v s' => (∃ h' tk, s' = { s with heap := h', toks := tk } ∧ (∀ b o, s.heap.get? b = some o → h'.get? b = some o)) ∧ ∀ h' : Heap, (∀ b o, s.heap.get? b = some o → h'.get? b = some o) → s'.heap = h' → Real h' (C.D σ) v d) (fun _ _ => False) s) : Gives C ls t d σ s := by
  refine wpAny_mono (wpAny_size h) (fun v s' hh => ?_) fun _ _ x => x.2
  obtain ⟨hz, ⟨h', tk, e, k⟩, r⟩ := hh
  have S : Step C.own s.heap σ h' σ := ⟨fun b o eb _ _ => k b o eb, by rw [e] at hz; exact hz, fun _ h1 h2 => absurd h2 h1, fun _ _ _ e _ => .inl e⟩
  refine ⟨σ, ?_, by rw [e]; exact S, by rw [e]; exact r h' k (by rw [e]), rfl⟩
  rw [e]
  exact G.change S (fun b _ o eb => k b o eb) (fun a ha => G.fresh a (.inl ha)) G.apart fun a c ea => (G.sim a c ea).leaves (G.leaves S) fun o eo => k a o eo

theorem Real.push {v : Value} {x : V} (G : Good C σ ls s) (o : Obj) (r : Real s.heap (C.D σ) v x) : Real (s.heap.push o) (C.D σ) v x := r.leaves (G.leaves (Step.push _ _ _ _))
theorem Reals.push {v : List Value} {x : List V} (G : Good C σ ls s) (o : Obj) (r : Reals s.heap (C.D σ) v x) : Reals (s.heap.push o) (C.D σ) v x := r.leaves (G.leaves (Step.push _ _ _ _))
theorem new_lst {vs : Array Value} {xs : List V} (G : Good C σ ls s) (hz : vs.size ≤ 2 ^ 24) (r : Reals s.heap (C.D σ) vs.toList xs) : Real (s.heap.push (listObj vs 0)) (C.D σ) (.ref s.heap.objs.size) (.lst xs) :=
  .lst (Heap.get?_push_size _ rfl) hz G.newAddr (r.push G _)
theorem new_tup {vs : Array Value} {xs : List V} (G : Good C σ ls s) (hz : vs.size ≤ 2 ^ 24) (r : Reals s.heap (C.D σ) vs.toList xs) : Real (s.heap.push (tupObj vs 0)) (C.D σ) (.ref s.heap.objs.size) (.tup xs) :=
  .tup (Heap.get?_push_size _ rfl) hz G.newAddr (r.push G _)

/-! what stands behind data -/
theorem lst_at {v : Value} {x : V} {xs : List V} (G : Good C σ ls s) (r : Real s.heap (C.D σ) v x) (h : lstOf σ x = some xs) :
    ∃ a vs n, v = .ref a ∧ s.heap.get? a = some (listObj vs n) ∧ vs.size ≤ 2 ^ 24 ∧ Reals s.heap (C.D σ) vs.toList xs := by
  cases r <;> simp only [lstOf, reduceCtorEq, Option.some.injEq] at h
  · rename_i ho hz hd rs; subst h; exact ⟨_, _, _, rfl, ho, hz, rs⟩
  · rename_i a
    cases e : σ a with
    | none => simp [e] at h
    | some c =>
      cases c <;> simp [e] at h
      subst h
      obtain ⟨vs, n, ho, hz, rs⟩ := G.sim a _ e
      exact ⟨a, vs, n, rfl, ho, hz, rs⟩
theorem seq_at {v : Value} {x : V} {xs : List V} (G : Good C σ ls s) (r : Real s.heap (C.D σ) v x) (h : seqOf σ x = some xs) :
    ∃ a vs n, v = .ref a ∧ (s.heap.get? a = some (listObj vs n) ∨ s.heap.get? a = some (tupObj vs n)) ∧ vs.size ≤ 2 ^ 24 ∧ Reals s.heap (C.D σ) vs.toList xs := by
  cases x with
  | tup ys =>
    simp only [seqOf, Option.some.injEq] at h; subst h
    cases r with | tup ho hz _ rs => exact ⟨_, _, _, rfl, .inr ho, hz, rs⟩
  | _ =>
    simp only [seqOf] at h
    obtain ⟨a, vs, n, e, ho, hz, rs⟩ := lst_at G r h
    exact ⟨a, vs, n, e, .inl ho, hz, rs⟩
theorem dic_at {v : Value} {x : V} {xs : List (Int × V)} (hW : C.W.Ok) (G : Good C σ ls s) (r : Real s.heap (C.D σ) v x) (h : dicOf σ x = some xs) :
    ∃ a es n, v = .ref a ∧ s.heap.get? a = some (dictObj es n) ∧ es.size ≤ 2 ^ 24 ∧ (xs.map (·.1)).Nodup ∧ 2 < a ∧ RealD s.heap (C.D σ) es.toList xs := by
  cases r <;> simp only [dicOf, reduceCtorEq, Option.some.injEq] at h
  · rename_i ho hz hn h2 hd rs; subst h; exact ⟨_, _, _, rfl, ho, hz, hn, h2, rs⟩
  · rename_i a
    cases e : σ a with
    | none => simp [e] at h
    | some c =>
      cases c <;> simp [e] at h
      subst h
      obtain ⟨vs, n, ho, hz, hn, rs⟩ := G.sim a _ e
      exact ⟨a, vs, n, rfl, ho, hz, hn, Nat.lt_of_lt_of_le hW.two (G.fresh a (.inl (not_some e))), rs⟩

theorem isList_of {h : Heap} {a : Addr} {vs : Array Value} {n : Nat} (e : h.get? a = some (listObj vs n)) : h.IsList a vs := ⟨_, e, rfl, n, rfl⟩
theorem isTup_of {h : Heap} {a : Addr} {vs : Array Value} {n : Nat} (e : h.get? a = some (tupObj vs n)) : IsTup h a vs := ⟨_, e, rfl, n, rfl⟩

/-- the keys and the values of a dict, as the library says them -/
theorem RealD.pairs {prog : Program} {w : World} {h : Heap} {D : Addr → Prop} : ∀ {es : List DictEntry} {xs : List (Int × V)}, RealD h D es xs →
    ∃ kvs : List (Int × Value), Pairs (intKind prog w) es kvs ∧ kvs.map (·.1) = xs.map (·.1) ∧ Reals h D (kvs.map (·.2)) (xs.map (·.2)) ∧ ∀ e ∈ es, ∃ k, (intKind prog w).is k e.key = true ∧ e.hash = (intKind prog w).hash k
  | _, _, .nil => ⟨[], .nil, rfl, .nil, fun _ he => nomatch he⟩
  | _, _, .cons (e := e) (k := k) (t := t) hk hh hv r => by
    obtain ⟨kvs, h1, h2, h3, h4⟩ := RealD.pairs (prog := prog) (w := w) r
    refine ⟨(k, e.val) :: kvs, .cons (by rw [hk]; exact intKind_is prog w k t) rfl h1, by simp [h2], .cons hv h3, fun e' he => ?_⟩
    rcases List.mem_cons.mp he with rfl | he
    · exact ⟨k, by rw [hk]; exact intKind_is prog w k t, hh⟩
    · exact h4 e' he
theorem dictOf_of {prog : Program} {w : World} {h : Heap} {D : Addr → Prop} {a : Addr} {es : Array DictEntry} {n : Nat} {xs : List (Int × V)} (ho : h.get? a = some (dictObj es n)) (hn : (xs.map (·.1)).Nodup)
    (r : RealD h D es.toList xs) : ∃ kvs : List (Int × Value), h.DictOf (intKind prog w) a kvs ∧ kvs.map (·.1) = xs.map (·.1) ∧ Reals h D (kvs.map (·.2)) (xs.map (·.2)) := by
  obtain ⟨kvs, h1, h2, h3, h4⟩ := RealD.pairs (prog := prog) (w := w) r
  exact ⟨kvs, ⟨_, es, n, ho, ⟨rfl, rfl, rfl⟩, rfl, fun e he => h4 e (Array.mem_toList_iff.mpr he), h1, by rw [h2]; exact hn⟩, h2, h3⟩
theorem valueAt_of {h : Heap} {D : Addr → Prop} : ∀ {kvs : List (Int × Value)} {xs : List (Int × V)}, kvs.map (·.1) = xs.map (·.1) → Reals h D (kvs.map (·.2)) (xs.map (·.2)) → ∀ k,
    (valueAt kvs k = none ∧ lookD k xs = none) ∨ ∃ v x, valueAt kvs k = some v ∧ lookD k xs = some x ∧ Real h D v x
  | [], [], _, _, k => .inl ⟨rfl, rfl⟩
  | [], _ :: _, h, _, _ => by simp at h
  | _ :: _, [], h, _, _ => by simp at h
  | (j, v) :: kvs, (j', x) :: xs, e, r, k => by
    simp only [List.map_cons, List.cons.injEq] at e
    obtain ⟨rfl, e⟩ := e
    cases r with
    | cons r1 r2 =>
      by_cases q : j = k
      · exact .inr ⟨v, x, by simp [valueAt, q], by simp [lookD, q], r1⟩
      · have := valueAt_of e r2 k
        simpa [valueAt, lookD, q] using this
end
end Mine
end

section
open PySem PyProof.Rows
namespace Mine
section
variable {C : Cx} {ls : Ls} {σ : View} {s : Shared} {a b : Value} {x y d : V}

/-! arithmetic -/
theorem mulFits_ok {i j : Int} (h : mulFits i j = true) : IntMulOk i j := by
  unfold mulFits at h; unfold IntMulOk; intro hc; rw [hc] at h; cases h

theorem g_add (G : Good C σ ls s) (ra : Real s.heap (C.D σ) a x) (rb : Real s.heap (C.D σ) b y) (h : addV σ x y = some d) : Gives C ls (binaryOp .Add a b) d σ s := by
  have lists : ∀ {xs ys : List V}, lstOf σ x = some xs → lstOf σ y = some ys → xs.length + ys.length ≤ big → d = .lst (xs ++ ys) → Gives C ls (binaryOp .Add a b) d σ s := by
    intro xs ys hx hy hz hd
    obtain ⟨a', vs, n, rfl, ho, hzv, rs⟩ := lst_at G ra hx
    obtain ⟨b', ws, m, rfl, hb, hzw, rw'⟩ := lst_at G rb hy
    have e1 : vs.size = xs.length := by rw [← rs.length]; simp
    have e2 : ws.size = ys.length := by rw [← rw'.length]; simp
    have hsz : vs.size + ws.size ≤ 2 ^ 24 := by rw [e1, e2]; exact hz
    subst hd
    have r := Reals.append rs rw'
    rw [← Array.toList_append] at r
    exact Gives.new G (new_lst G (by rw [Array.size_append]; exact hsz) r) (P.add_list ho hb ⟨rfl, s.toks, rfl⟩ (by rw [sizeLine_eq]; exact hsz))
  unfold addV at h
  split at h
  · cases ra; cases rb; cases h; exact Gives.quiet G (wpAny_add_int ⟨⟨_, rfl⟩, .int _ _⟩)
  · split at h
    · rename_i e1 e2
      split at h
      · rename_i hz; cases h; exact lists e1 e2 hz rfl
      · cases h
    · cases h

theorem g_sub (G : Good C σ ls s) {i j : Int} (ra : Real s.heap (C.D σ) a (.int i)) (rb : Real s.heap (C.D σ) b (.int j)) : Gives C ls (binaryOp .Sub a b) (.int (i - j)) σ s := by
  cases ra; cases rb; exact Gives.quiet G (sub_int ⟨⟨_, rfl⟩, .int _ _⟩)
theorem g_div (G : Good C σ ls s) {i j : Int} (ra : Real s.heap (C.D σ) a (.int i)) (rb : Real s.heap (C.D σ) b (.int j)) (h0 : 0 < j) (h1 : j < 2 ^ 29) : Gives C ls (binaryOp .FloorDiv a b) (.int (i / j)) σ s := by
  cases ra; cases rb
  have e : i.fdiv j = i / j := Int.fdiv_eq_ediv_of_nonneg _ (by omega)
  refine Gives.quiet G (AutoIntOps.floordiv_1 (by simp; omega) (by rw [PyProof.noPylong_small (by omega)]; exact Bool.false_ne_true) ?_)
  exact ⟨⟨_, rfl⟩, by rw [← e]; exact .int _ _⟩
theorem g_mod (G : Good C σ ls s) {i j : Int} (ra : Real s.heap (C.D σ) a (.int i)) (rb : Real s.heap (C.D σ) b (.int j)) (h0 : 0 < j) : Gives C ls (binaryOp .Mod a b) (.int (i % j)) σ s := by
  cases ra; cases rb
  have e : i.fmod j = i % j := Int.fmod_eq_emod_of_nonneg _ (by omega)
  refine Gives.quiet G (mod_int' (by omega) ?_)
  exact ⟨⟨_, rfl⟩, by rw [← e]; exact .int _ _⟩
theorem g_pow (G : Good C σ ls s) {i j : Int} (ra : Real s.heap (C.D σ) a (.int i)) (rb : Real s.heap (C.D σ) b (.int j)) (h0 : 1 < i) (h1 : i ≤ 10) (h2 : 0 < j) (h3 : j ≤ 100) : Gives C ls (binaryOp .Pow a b) (.int (i ^ j.toNat)) σ s := by
  cases ra; cases rb
  have hb : Builtin.Int.intBits i ≤ 64 := intBits_le_64 (by omega) (by omega)
  refine Gives.quiet G (AutoIntOps.pow_4 (by omega) (by simp; omega) (by simp; omega) (by simp; omega) ?_ ?_)
  · unfold Builtin.Int.intTooBig bitsLine
    have : ((Builtin.Int.intBits i : Nat) : Int) * j ≤ 64 * 100 := by
      have h5 : ((Builtin.Int.intBits i : Nat) : Int) ≤ 64 := by omega
      exact Int.mul_le_mul h5 h3 (by omega) (by omega)
    simp; omega
  · exact ⟨⟨_, rfl⟩, .int _ _⟩
/-! comparisons -/
theorem g_isNot (G : Good C σ ls s) {r : Bool} (ra : Real s.heap (C.D σ) a x) (rb : Real s.heap (C.D σ) b y) (h : sameSingle x y = some r) : Gives C ls (compareOp .IsNot a b) (.bool (!r)) σ s := by
  unfold sameSingle at h
  split at h
  · cases ra; cases rb; cases h; exact Gives.quiet G (wpAny_isNot_plain rfl ⟨⟨s.toks, rfl⟩, .bool _⟩)
  · cases ra; cases rb; cases h; exact Gives.quiet G (wpAny_isNot_plain rfl ⟨⟨s.toks, rfl⟩, by rename_i p q; cases p <;> cases q <;> exact .bool _⟩)
  · cases h
  · rename_i h1 h2; cases rb; cases h; cases ra <;> first | exact Gives.quiet G (wpAny_isNot_plain rfl ⟨⟨s.toks, rfl⟩, .bool _⟩) | exact (h1 rfl).elim | exact (h2 _ rfl).elim
  · rename_i h1 h2; cases rb; cases h; cases ra <;> first | exact Gives.quiet G (wpAny_isNot_plain rfl ⟨⟨s.toks, rfl⟩, .bool _⟩) | exact (h1 _ rfl).elim | exact (h2 _ rfl).elim
  · cases h
end
end Mine
end

section
open PySem PyProof.Rows
namespace Mine
section
variable {C : Cx} {ls : Ls} {σ : View} {s : Shared} {a b : Value} {x y d : V}

/-! equality of data -/
theorem mapM_cons_some {α β : Type} {f : α → Option β} {x : α} {xs : List α} {r : List β} (h : (x :: xs).mapM f = some r) : ∃ y ys, f x = some y ∧ xs.mapM f = some ys ∧ r = y :: ys := by
  rw [List.mapM_cons] at h
  cases h1 : f x with
  | none => simp [h1] at h
  | some y =>
    cases h2 : xs.mapM f with
    | none => simp [h1, h2] at h
    | some ys => simp [h1, h2] at h; exact ⟨y, ys, rfl, rfl, h.symm⟩

theorem toD_reads (G : Good C σ ls s) : ∀ (n : Nat) {v : Value} {x : V} {d : PyData}, Real s.heap (C.D σ) v x → x.toD σ n = some d → (∃ as, Reads s.heap v d as) ∧ d.canLay0 = true ∧ d.depth ≤ n := by
  intro n
  induction n with
  | zero =>
    intro v x d r h
    cases r <;> simp [V.toD] at h <;> subst h
    · exact ⟨⟨_, .none⟩, by simp [PyData.canLay0], by simp [PyData.depth]⟩
    · exact ⟨⟨_, .bool _⟩, by simp [PyData.canLay0], by simp [PyData.depth]⟩
    · exact ⟨⟨_, .int _ _⟩, by simp [PyData.canLay0], by simp [PyData.depth]⟩
    · rename_i k _; exact ⟨⟨_, .str _ _⟩, by simpa [PyData.canLay0] using k, by simp [PyData.depth]⟩
  | succ n ih =>
    have all : ∀ {vs : List Value} {xs : List V} {ds : List PyData}, Reals s.heap (C.D σ) vs xs → xs.mapM (V.toD σ n) = some ds → (∃ as, ReadsAll s.heap vs ds as) ∧ PyData.canLayAll0 ds = true ∧ PyData.depthAll ds ≤ n := by
      intro vs xs ds r
      induction xs generalizing vs ds with
      | nil => intro h; cases r; simp at h; subst h; exact ⟨⟨_, .nil⟩, by simp [PyData.canLayAll0], by simp [PyData.depthAll]⟩
      | cons x xs ih2 =>
        intro h
        cases r with
        | cons r1 r2 =>
          obtain ⟨y, ys, h1, h2, rfl⟩ := mapM_cons_some h
          obtain ⟨⟨as, q1⟩, q2, q3⟩ := ih r1 h1
          obtain ⟨⟨bs, p1⟩, p2, p3⟩ := ih2 r2 h2
          exact ⟨⟨_, .cons q1 p1⟩, by simp [PyData.canLayAll0, q2, p2], by simp only [PyData.depthAll]; omega⟩
    intro v x d r h
    cases r with
    | none => simp [V.toD] at h; subst h; exact ⟨⟨_, .none⟩, by simp [PyData.canLay0], by simp [PyData.depth]⟩
    | bool b => simp [V.toD] at h; subst h; exact ⟨⟨_, .bool _⟩, by simp [PyData.canLay0], by simp [PyData.depth]⟩
    | int i t => simp [V.toD] at h; subst h; exact ⟨⟨_, .int _ _⟩, by simp [PyData.canLay0], by simp [PyData.depth]⟩
    | str z t k => simp [V.toD] at h; subst h; exact ⟨⟨_, .str _ _⟩, by simpa [PyData.canLay0] using k, by simp [PyData.depth]⟩
    | tup ho hz hd rs =>
      simp only [V.toD, Option.map_eq_some_iff] at h
      obtain ⟨ds, h1, rfl⟩ := h
      obtain ⟨⟨as, q1⟩, q2, q3⟩ := all rs h1
      exact ⟨⟨_, .tuple ho rfl rfl q1⟩, by simpa [PyData.canLay0] using q2, by simp only [PyData.depth]; omega⟩
    | lst ho hz hd rs =>
      simp only [V.toD, Option.map_eq_some_iff] at h
      obtain ⟨ds, h1, rfl⟩ := h
      obtain ⟨⟨as, q1⟩, q2, q3⟩ := all rs h1
      exact ⟨⟨_, .list ho rfl rfl q1⟩, by simpa [PyData.canLay0] using q2, by simp only [PyData.depth]; omega⟩
    | dct => simp [V.toD] at h
    | raw => simp [V.toD] at h
    | ref a =>
      simp only [V.toD] at h
      cases e : σ a with
      | none => simp [e] at h
      | some c =>
        cases c <;> simp [e] at h
        obtain ⟨vs, m, ho, hz, rs⟩ := G.sim a _ e
        obtain ⟨ds, h1, rfl⟩ := h
        obtain ⟨⟨as, q1⟩, q2, q3⟩ := all rs h1
        exact ⟨⟨_, .list ho rfl rfl q1⟩, by simpa [PyData.canLay0] using q2, by simp only [PyData.depth]; omega⟩

theorem eqD_at (R : Rm C) (G : Good C σ ls s) {r : Bool} {v w : Value} (rv : Real s.heap (C.D σ) v x) (rw' : Real s.heap (C.D σ) w y) (h : eqD σ x y = some r) : SeqAt.EqAt C.A.in1 s v w r := by
  unfold eqD at h
  split at h
  · rename_i p q hp hq
    obtain ⟨⟨as, h1⟩, h2, h3⟩ := toD_reads G 20 rv hp
    obtain ⟨⟨bs, k1⟩, k2, k3⟩ := toD_reads G 20 rw' hq
    cases h
    refine SeqAt.eqAt_reads p q C.A.in1 s v w as bs h1 k1 h2 k2 ?_
    have := R.units
    have : min p.depth q.depth ≤ 20 := Nat.le_trans (Nat.min_le_left _ _) h3
    show C.A.units + 1 + _ < _; omega
  · cases h

theorem eqAll_hits (R : Rm C) (G : Good C σ ls s) {kb : List (Int × Value)} {yb : List (Int × V)} (e2 : kb.map (·.1) = yb.map (·.1)) (r2 : Reals s.heap (C.D σ) (kb.map (·.2)) (yb.map (·.2))) :
    ∀ {ka : List (Int × Value)} {xa : List (Int × V)} {r : Bool}, ka.map (·.1) = xa.map (·.1) → Reals s.heap (C.D σ) (ka.map (·.2)) (xa.map (·.2)) → eqAll σ yb xa = some r → PySem.W.KeqHits C.A.in1 s kb ka r
  | [], [], r, _, _, h => by simp [eqAll] at h; subst h; exact .nil
  | [], _ :: _, _, h, _, _ => by simp at h
  | _ :: _, [], _, h, _, _ => by simp at h
  | (k, v) :: ka, (k', x) :: xa, r, e, rr, h => by
    simp only [List.map_cons, List.cons.injEq] at e
    obtain ⟨rfl, e⟩ := e
    cases rr with
    | cons r1 r3 =>
      simp only [eqAll] at h
      rcases valueAt_of e2 r2 k with ⟨h1, h1'⟩ | ⟨w, y, h1, h1', hr⟩
      · rw [h1'] at h; cases h; exact .miss h1
      · rw [h1'] at h
        simp only [Option.bind_eq_some_iff, Option.map_eq_some_iff] at h
        obtain ⟨q, hq, t, ht, rfl⟩ := h
        exact .hit h1 (eqD_at R G r1 hr hq) (eqAll_hits R G e2 r2 e r3 ht)

theorem sysMod {a : Addr} (h : 2 < a) : (a == sysModules) = false := by
  have : a ≠ sysModules := fun e => by rw [e] at h; exact absurd h (by decide)
  simpa using this

theorem g_eqB (R : Rm C) (G : Good C σ ls s) {r : Bool} (ra : Real s.heap (C.D σ) a x) (rb : Real s.heap (C.D σ) b y) (h : eqV σ x y = some r) :
    Gives C ls (compareOp .Eq a b) (.bool r) σ s ∧ Gives C ls (compareOp .NotEq a b) (.bool (!r)) σ s := by
  have hu := R.units
  unfold eqV at h
  split at h
  · cases ra; cases rb; cases h
    rename_i i j t u
    have e : (i == j) = decide (i = j) := by rw [Bool.eq_iff_iff]; simp
    have e' : (i != j) = !decide (i = j) := by rw [← e]; rfl
    exact ⟨Gives.quiet G (eq_int ⟨⟨s.toks, rfl⟩, by rw [← e]; exact .bool _⟩), Gives.quiet G (ne_int ⟨⟨s.toks, rfl⟩, by rw [← e']; exact .bool _⟩)⟩
  · cases ra; cases rb; cases h
    rename_i i j t _ _ u _ _
    have e : (i == j) = decide (i = j) := by rw [Bool.eq_iff_iff]; simp
    have e' : (i != j) = !decide (i = j) := by rw [← e]; rfl
    exact ⟨Gives.quiet G (PyProof.Rows.eq_str ⟨⟨s.toks, rfl⟩, by rw [← e]; exact .bool _⟩), Gives.quiet G (PyProof.Rows.ne_str ⟨⟨s.toks, rfl⟩, by rw [← e']; exact .bool _⟩)⟩
  · split at h
    · rename_i p q hp hq
      obtain ⟨⟨as, h1⟩, h2, h3⟩ := toD_reads G 20 ra hp
      obtain ⟨⟨bs, k1⟩, k2, k3⟩ := toD_reads G 20 rb hq
      cases h
      have hm : min p.depth q.depth ≤ 20 := Nat.le_trans (Nat.min_le_left _ _) h3
      exact ⟨Gives.quiet G (SeqAt.compareEq_reads h1 k1 h2 k2 (by omega) ⟨⟨s.toks, rfl⟩, .bool _⟩), Gives.quiet G (SeqAt.compareNe_reads h1 k1 h2 k2 (by omega) ⟨⟨s.toks, rfl⟩, .bool _⟩)⟩
    · split at h
      · rename_i xa xb ha hb
        obtain ⟨a', es, n, rfl, ho, hz, hn, h2, rs⟩ := dic_at R.ok G ra ha
        obtain ⟨b', es', n', rfl, ho', hz', hn', h2', rs'⟩ := dic_at R.ok G rb hb
        obtain ⟨ka, da, ea, va⟩ := dictOf_of (prog := C.W.prog) (w := C.W.w) ho hn rs
        obtain ⟨kb, db, eb, vb⟩ := dictOf_of (prog := C.W.prog) (w := C.W.w) ho' hn' rs'
        have la : ka.length = xa.length := by have := congrArg List.length ea; simpa using this
        have lb : kb.length = xb.length := by have := congrArg List.length eb; simpa using this
        unfold eqDict at h
        split at h
        · rename_i hl
          have hits := eqAll_hits R G eb vb ea va h
          have e : (ka.length == kb.length && r) = r := by rw [la, lb, hl]; simp
          exact ⟨Gives.quiet G (PySem.W.keq_eq (sysMod h2) (sysMod h2') da db (by omega) (fun _ => hits) ⟨⟨s.toks, rfl⟩, by rw [e]; exact .bool _⟩),
            Gives.quiet G (PySem.W.keq_ne (sysMod h2) (sysMod h2') da db (by omega) (fun _ => hits) ⟨⟨s.toks, rfl⟩, by rw [e]; exact .bool _⟩)⟩
        · rename_i hl
          cases h
          have e : (ka.length == kb.length && true) = false := by rw [la, lb]; simpa using hl
          have no : ka.length = kb.length → PySem.W.KeqHits C.A.in1 s kb ka true := fun q => absurd (by rw [← la, ← lb]; exact q) hl
          exact ⟨Gives.quiet G (PySem.W.keq_eq (sysMod h2) (sysMod h2') da db (by omega) no ⟨⟨s.toks, rfl⟩, by rw [e]; exact .bool _⟩),
            Gives.quiet G (PySem.W.keq_ne (sysMod h2) (sysMod h2') da db (by omega) no ⟨⟨s.toks, rfl⟩, by rw [e]; exact .bool _⟩)⟩
      · cases h

/-! order -/
theorem g_lt (G : Good C σ ls s) (ra : Real s.heap (C.D σ) a x) (rb : Real s.heap (C.D σ) b y) (h : ordV (fun a b => decide (a < b)) (fun a b => !strLe b a) [x, y] = some d) : Gives C ls (compareOp .Lt a b) d σ s := by
  unfold ordV at h
  split at h
  · rename_i e; cases e; cases ra; cases rb; cases h; exact Gives.quiet G (PyProof.Rows.lt_int ⟨⟨s.toks, rfl⟩, .bool _⟩)
  · rename_i e; cases e; cases ra; cases rb; cases h; exact Gives.quiet G (PyProof.Rows.lt_str ⟨⟨s.toks, rfl⟩, by simp only [strLe, Bool.not_not]; exact .bool _⟩)
  · cases h
end
end Mine
end

section
open PySem PyProof.Rows
namespace Mine
section
variable {C : Cx} {ls : Ls} {σ : View} {s : Shared} {a b : Value} {x y d : V}

theorem strOk_one {x : Str} {c : Nat} {i : Nat} (hx : PyData.strOk x = true) (hc : x.cps[i]? = some c) : PyData.strOk ⟨#[c]⟩ = true := by
  unfold PyData.strOk at *
  have := Array.all_eq_true.mp hx
  obtain ⟨hi, e⟩ := Array.getElem?_eq_some_iff.mp hc
  have h1 := this i hi
  rw [e] at h1
  simpa using h1

theorem itemsOf_cases {xs : List V} (h : itemsOf σ x = some xs) : (∃ z, x = .str z ∧ xs = charsOf z) ∨ seqOf σ x = some xs ∨ ∃ es, dicOf σ x = some es ∧ xs = es.map fun p => V.int p.1 := by
  unfold itemsOf at h
  split at h
  · cases h; exact .inl ⟨_, rfl, rfl⟩
  · split at h
    · rename_i e; cases h; exact .inr (.inl e)
    · simp only [Option.map_eq_some_iff] at h
      obtain ⟨es, e, rfl⟩ := h
      exact .inr (.inr ⟨es, e, rfl⟩)

/-! length -/
theorem g_len (R : Rm C) (G : Good C σ ls s) {n : Nat} (ra : Real s.heap (C.D σ) a x) (h : lenOf σ x = some n) : Gives C ls (call (.builtin "len") [a]) (.int n) σ s := by
  unfold lenOf at h
  simp only [Option.map_eq_some_iff] at h
  obtain ⟨xs, hx, rfl⟩ := h
  rcases itemsOf_cases hx with ⟨z, rfl, rfl⟩ | hs | ⟨es, hd, rfl⟩
  · cases ra with | str _ t k hz =>
    have e : (charsOf z).length = z.length := by simp [charsOf, Str.length]
    have hz' : z.length ≤ 2 ^ 24 := hz
    refine Gives.quiet G (P.len_str (by omega) ⟨⟨_, rfl⟩, ?_⟩)
    rw [e]; exact .int _ _
  · obtain ⟨a', vs, n, rfl, ho, hz, rs⟩ := seq_at G ra hs
    have el : vs.size = xs.length := by rw [← rs.length]; simp
    rcases ho with ho | ho
    · exact Gives.quiet G (PyProof.Rows.len_list (isList_of ho) (by omega) ⟨⟨_, rfl⟩, by rw [← el]; exact .int _ _⟩)
    · exact Gives.quiet G (P.len_tuple ho (by omega) ⟨⟨_, rfl⟩, by rw [← el]; exact .int _ _⟩)
  · obtain ⟨a', ds, n, rfl, ho, hz, hn, h2, rs⟩ := dic_at R.ok G ra hd
    obtain ⟨kvs, da, ea, va⟩ := dictOf_of (prog := C.W.prog) (w := C.W.w) ho hn rs
    have la : kvs.length = es.length := by have := congrArg List.length ea; simpa using this
    have l2 : es.length = ds.size := by rw [← rs.length]; simp
    exact Gives.quiet G (call_len_dict (sysMod h2) da (by omega) ⟨⟨_, rfl⟩, by rw [List.length_map, ← la]; exact .int _ _⟩)

/-! isinstance -/
theorem g_isinst (G : Good C σ ls s) {t : String} {r : Bool} (ht : t ∈ ["dict"]) (ra : Real s.heap (C.D σ) a x) (h : isTypeV σ t x = some r) :
    Gives C ls (call (.builtin "isinstance") [a, .type t]) (.bool r) σ s := by
  have q : ∀ {r : Bool}, wpAny (model C.W.prog C.W.w) C.A (call (.builtin "isinstance") [a, .type t]) (fun v s' => (∃ tk, s' = { s with toks := tk }) ∧ v = .bool r) (fun _ _ => False) s → Gives C ls (call (.builtin "isinstance") [a, .type t]) (.bool r) σ s :=
    fun hq => Gives.quiet G (wpAny_mono hq (fun v s' ⟨e1, e2⟩ => ⟨e1, by rw [e2]; exact .bool _⟩) fun _ _ x => x)
  have lists : ∀ {l : Addr} {o : Obj}, a = .ref l → s.heap.get? l = some o → o.cls = .type "list" → r = (t == "list") → Gives C ls (call (.builtin "isinstance") [a, .type t]) (.bool r) σ s := by
    rintro l o rfl ho hc rfl
    simp only [List.mem_cons, List.not_mem_nil, or_false] at ht
    rcases ht with rfl
    · exact q (IsiPair.list_dict ho hc ⟨⟨_, rfl⟩, rfl⟩)
  have dicts : ∀ {l : Addr} {o : Obj}, a = .ref l → s.heap.get? l = some o → o.cls = .type "dict" → r = (t == "dict") → Gives C ls (call (.builtin "isinstance") [a, .type t]) (.bool r) σ s := by
    rintro l o rfl ho hc rfl
    simp only [List.mem_cons, List.not_mem_nil, or_false] at ht
    rcases ht with rfl
    · exact q (IsiPair.dict_dict ho hc ⟨⟨s.toks, rfl⟩, rfl⟩)
  cases ra with
  | raw v =>
    simp only [List.mem_cons, List.not_mem_nil, or_false] at ht
    rcases ht with rfl <;> exact absurd h (by rintro ⟨⟩)
  | ref l =>
    simp only [isTypeV] at h
    cases e : σ l with
    | none => simp [e] at h
    | some c =>
      cases c <;> simp [e] at h
      · obtain ⟨vs, n, ho, _⟩ := G.sim l _ e
        exact lists rfl ho rfl h.symm
      · obtain ⟨vs, n, ho, _⟩ := G.sim l _ e
        exact dicts rfl ho rfl h.symm
  | lst ho hz hd rs =>
    simp only [List.mem_cons, List.not_mem_nil, or_false] at ht
    refine lists rfl ho rfl ?_
    rcases ht with rfl <;> exact (Option.some.inj h).symm
  | dct ho hz hn h2 hd rs =>
    simp only [List.mem_cons, List.not_mem_nil, or_false] at ht
    refine dicts rfl ho rfl ?_
    rcases ht with rfl <;> exact (Option.some.inj h).symm
  | tup ho hz hd rs =>
    simp only [List.mem_cons, List.not_mem_nil, or_false] at ht
    rcases ht with rfl
    · obtain rfl : false = r := Option.some.inj h; exact q (IsiPair.tuple_dict ho rfl ⟨⟨_, rfl⟩, rfl⟩)
  | none =>
    simp only [List.mem_cons, List.not_mem_nil, or_false] at ht
    rcases ht with rfl
    · obtain rfl : false = r := Option.some.inj h; exact q (IsiPair.NoneType_dict ⟨⟨_, rfl⟩, rfl⟩)
  | int i u =>
    simp only [List.mem_cons, List.not_mem_nil, or_false] at ht
    rcases ht with rfl
    · obtain rfl : false = r := Option.some.inj h; exact q (IsiPair.int_dict ⟨⟨_, rfl⟩, rfl⟩)
  | bool i =>
    simp only [List.mem_cons, List.not_mem_nil, or_false] at ht
    rcases ht with rfl
    · obtain rfl : false = r := Option.some.inj h; exact q (IsiPair.bool_dict ⟨⟨_, rfl⟩, rfl⟩)
  | str i u =>
    simp only [List.mem_cons, List.not_mem_nil, or_false] at ht
    rcases ht with rfl
    · obtain rfl : false = r := Option.some.inj h; exact q (IsiPair.str_dict ⟨⟨_, rfl⟩, rfl⟩)
end
end Mine
end

section
open PySem PyProof.Rows
namespace Mine

theorem idxOf_eq (i : Int) (n : Nat) : idxOf i n = seqIndex? i n := by
  unfold idxOf seqIndex?
  by_cases h : 0 ≤ i
  · have h' : ¬ i < 0 := by omega
    simp only [h, h', if_true, if_false, decide_true, Bool.true_and]
    by_cases h2 : i < n
    · simp [h2]
    · simp [h2]
  · have h' : i < 0 := by omega
    simp only [h, h', if_true, if_false]
    by_cases h2 : -(n : Int) ≤ i
    · have : 0 ≤ i + n := by omega
      have h3 : i + n < n := by omega
      simp [h2, this, h3]
    · have : ¬ 0 ≤ i + n := by omega
      simp [h2, this]
theorem idxOf_lt {i : Int} {n j : Nat} (h : idxOf i n = some j) : j < n ∧ -(n : Int) ≤ i ∧ i < n := by
  unfold idxOf at h
  split at h <;> split at h <;> cases h <;> omega

section
variable {α β : Type}
theorem putD_length_le {k : Int} {v : α} : ∀ {l : List (Int × α)}, (putD k v l).length ≤ l.length + 1
  | [] => by simp [putD]
  | (i, w) :: r => by
    simp only [putD]
    split
    · simp
    · have := putD_length_le (k := k) (v := v) (l := r); simp; omega
theorem dropD_length_le {k : Int} : ∀ {l : List (Int × α)}, (dropD k l).length ≤ l.length
  | [] => by simp [dropD]
  | (i, w) :: r => by
    simp only [dropD]
    split
    · simp
    · have := dropD_length_le (k := k) (l := r); simp; omega
theorem dropD_none {k : Int} : ∀ {l : List (Int × α)}, lookD k l = none → dropD k l = l
  | [], _ => rfl
  | (i, w) :: r, h => by
    simp only [lookD] at h
    split at h
    · cases h
    · rename_i e; simp [dropD, e, dropD_none h]
end

theorem stored_eq (k : Int) (v : Value) : ∀ {l : List (Int × Value)}, (l.map (·.1)).Nodup → stored l k v = putD k v l
  | [], _ => rfl
  | (i, w) :: r, h => by
    simp only [List.map_cons, List.nodup_cons] at h
    have ih := stored_eq k v h.2
    unfold stored at *
    simp only [putD, List.any_cons, List.map_cons]
    by_cases e : i = k
    · subst e
      have : r.map (fun kv => if kv.1 = i then (kv.1, v) else kv) = r := by
        rw [List.map_congr_left (g := id) (fun kv hk => ?_)]
        · simp
        · have : kv.1 ≠ i := fun he => h.1 (by rw [← he]; exact List.mem_map_of_mem hk)
          simp [this]
      simp [this]
    · simp only [e, decide_false, Bool.false_or, if_false]
      rw [← ih]
      split <;> simp
theorem without_eq (k : Int) : ∀ {l : List (Int × Value)}, (l.map (·.1)).Nodup → without l k = dropD k l
  | [], _ => rfl
  | (i, w) :: r, h => by
    simp only [List.map_cons, List.nodup_cons] at h
    have ih := without_eq k h.2
    unfold without at *
    by_cases e : i = k
    · subst e
      have : r.filter (fun kv => !decide (kv.1 = i)) = r := by
        rw [List.filter_eq_self]
        intro kv hk
        have : kv.1 ≠ i := fun he => h.1 (by rw [← he]; exact List.mem_map_of_mem hk)
        simp [this]
      simp [dropD]; simpa using this
    · simp [dropD, e]; simpa using ih

/-- dicts as keys and values -/
noncomputable def Par (h : Heap) (D : Addr → Prop) (kvs : List (Int × Value)) (xs : List (Int × V)) : Prop := kvs.map (·.1) = xs.map (·.1) ∧ Reals h D (kvs.map (·.2)) (xs.map (·.2))
section
variable {h : Heap} {D : Addr → Prop}
theorem Par.length {kvs : List (Int × Value)} {xs : List (Int × V)} (p : Par h D kvs xs) : kvs.length = xs.length := by simpa using congrArg List.length p.1
theorem Par.put {k : Int} {v : Value} {x : V} (rv : Real h D v x) : ∀ {kvs : List (Int × Value)} {xs : List (Int × V)}, Par h D kvs xs → Par h D (putD k v kvs) (putD k x xs)
  | [], [], _ => ⟨by simp [putD], by simp only [putD, List.map_cons, List.map_nil]; exact .cons rv .nil⟩
  | [], _ :: _, p => by have := p.1; simp at this
  | _ :: _, [], p => by have := p.1; simp at this
  | (i, w) :: r, (j, y) :: q, p => by
    obtain ⟨e, hr⟩ := p
    simp only [List.map_cons, List.cons.injEq] at e
    obtain ⟨rfl, e⟩ := e
    cases hr with
    | cons r1 r2 =>
      simp only [putD]
      split
      · exact ⟨by simp [e], .cons rv r2⟩
      · obtain ⟨e', r'⟩ := Par.put rv (k := k) (kvs := r) (xs := q) ⟨e, r2⟩
        exact ⟨by simp [e'], .cons r1 r'⟩
theorem Par.drop {k : Int} : ∀ {kvs : List (Int × Value)} {xs : List (Int × V)}, Par h D kvs xs → Par h D (dropD k kvs) (dropD k xs)
  | [], [], p => p
  | [], _ :: _, p => by have := p.1; simp at this
  | _ :: _, [], p => by have := p.1; simp at this
  | (i, w) :: r, (j, y) :: q, p => by
    obtain ⟨e, hr⟩ := p
    simp only [List.map_cons, List.cons.injEq] at e
    obtain ⟨rfl, e⟩ := e
    cases hr with
    | cons r1 r2 =>
      simp only [dropD]
      split
      · exact ⟨e, r2⟩
      · obtain ⟨e', r'⟩ := Par.drop (k := k) (kvs := r) (xs := q) ⟨e, r2⟩
        exact ⟨by simp [e'], .cons r1 r'⟩
theorem Par.realD {prog : Program} {w : World} : ∀ {es : List DictEntry} {kvs : List (Int × Value)} {xs : List (Int × V)}, Pairs (intKind prog w) es kvs → (∀ e ∈ es, ∃ k, (intKind prog w).is k e.key = true ∧ e.hash = (intKind prog w).hash k) → Par h D kvs xs → RealD h D es xs
  | [], [], [], _, _, _ => .nil
  | _, [], _ :: _, _, _, p => by have := p.1; simp at this
  | _, _ :: _, [], _, _, p => by have := p.1; simp at this
  | e :: es, (i, w') :: r, (j, y) :: q, hp, hk, p => by
    obtain ⟨ee, hr⟩ := p
    simp only [List.map_cons, List.cons.injEq] at ee
    obtain ⟨rfl, ee⟩ := ee
    cases hp with
    | cons h1 h2 h3 =>
      cases hr with
      | cons r1 r2 =>
        obtain ⟨t, ht⟩ := Value.isInt_shape h1
        obtain ⟨k', hk1, hk2⟩ := hk e (.head _)
        have : k' = i := (intKind prog w).inj _ _ _ hk1 h1
        subst this
        simp only at h2
        exact .cons ht hk2 (by rw [h2]; exact r1) (Par.realD h3 (fun e' he => hk e' (.tail _ he)) ⟨ee, r2⟩)
end

theorem dictObj_of {prog : Program} {w : World} {h : Heap} {D : Addr → Prop} {a : Addr} {kvs : List (Int × Value)} {xs : List (Int × V)} (hd : h.DictOf (intKind prog w) a kvs) (p : Par h D kvs xs) :
    ∃ es n, h.get? a = some (dictObj es n) ∧ es.size = xs.length ∧ (xs.map (·.1)).Nodup ∧ RealD h D es.toList xs := by
  obtain ⟨⟨c, dd, dat, sl⟩, es, ep, ho, ⟨hc1, hc2, hc3⟩, hdat, hk, hp, hn⟩ := hd
  simp only at hc1 hc2 hc3 hdat
  subst hc1 hc2 hc3 hdat
  refine ⟨es, ep, ho, ?_, by rw [← p.1]; exact hn, Par.realD hp (fun e he => hk e (Array.mem_toList_iff.mp he)) p⟩
  have := hp.length
  rw [p.length] at this
  simpa using this
end Mine
end

section
open PySem PyProof.Rows
namespace Mine
section
variable {C : Cx} {ls : Ls} {σ : View} {s : Shared} {a b : Value} {x y d : V}

theorem leaves_keep {h h' : Heap} {D : Addr → Prop} (k : ∀ b o, h.get? b = some o → h'.get? b = some o) : Leaves h D h' D := fun b o e hd => ⟨k b o e, hd⟩

theorem Step.grownUpd {own : Addr → Prop} {h h' : Heap} {σ : View} {a : Addr} {c : Cell} (k : ∀ b o, h.get? b = some o → h'.get? b = some o) (hz : h.objs.size ≤ h'.objs.size) (ha : h.objs.size ≤ a) : Step own h σ h' (σ.upd a c) :=
  ⟨fun b o e _ _ => k b o e, hz, fun b h1 h2 => by
    by_cases q : b = a
    · rw [q]; exact ha
    · rw [upd_ne q] at h1; exact absurd h2 h1, fun b c' hb e _ => .inl (by rw [upd_ne (Nat.ne_of_lt (Nat.lt_of_lt_of_le hb ha))]; exact e)⟩
theorem Good.grownUpd {h' : Heap} {a : Addr} {c : Cell} {tk : Nat} (G : Good C σ ls s) (k : ∀ b o, s.heap.get? b = some o → h'.get? b = some o) (hz : s.heap.objs.size ≤ h'.objs.size) (ha : s.heap.objs.size ≤ a)
    (hc : CellAt C.W.w.params h' (C.D (σ.upd a c)) a c) : Good C (σ.upd a c) ls { s with heap := h', toks := tk } := by
  have S := Step.grownUpd (own := C.own) (σ := σ) (c := c) k hz ha
  refine G.change S (fun b _ o e => k b o e) (fun b h => ?_) (fun b h => ?_) fun b c' e => ?_
  · by_cases q : b = a
    · rw [q]; exact Nat.le_trans G.larger ha
    · rw [upd_ne q] at h; exact G.fresh b (.inl h)
  · have : b ≠ a := Nat.ne_of_lt (Nat.lt_of_lt_of_le (G.toGround.lt (.inr h)) ha)
    rw [upd_ne this]; exact G.apart b h
  · by_cases q : b = a
    · subst q; rw [upd_self] at e; cases e; exact hc
    · rw [upd_ne q] at e
      exact (G.sim b c' e).leaves (G.leaves S) fun o' e' => k b o' e'
theorem Good.noView (G : Good C σ ls s) {a : Addr} (h : s.heap.objs.size ≤ a) : σ a = none := by
  cases e : σ a with
  | none => rfl
  | some c => exact absurd (G.toGround.lt (.inl (not_some e))) (Nat.not_lt.mpr h)
/-- a new object that the view holds from now on -/
theorem TrE.newCell {t : Sem Value} {Q : Post} {c : Cell} (G : Good C σ ls s)
    (h : wpAny (model C.W.prog C.W.w) C.A t (fun v s' => ∃ a h' tk, v = .ref a ∧ s' = { s with heap := h', toks := tk } ∧ (∀ b o, s.heap.get? b = some o → h'.get? b = some o) ∧ s.heap.objs.size ≤ a ∧
      CellAt C.W.w.params h' (C.D (σ.upd a c)) a c) (fun _ _ => False) s)
    (q : ∀ a, σ a = none → Q (.ref a) (σ.upd a c)) : TrE C ls t (RV C Q) σ s := by
  refine wpAny_mono (wpAny_size h) (fun v s' hh => ?_) fun _ _ x => x.2
  obtain ⟨hz, a, h', tk, rfl, rfl, k, ha, hc⟩ := hh
  exact ⟨_, G.grownUpd k hz ha hc, Step.grownUpd k hz ha, .ref a, .ref a, q a (G.noView ha)⟩

theorem leaves_upd (_G : Good C σ ls s) {h' : Heap} {a : Addr} {c : Cell} (k : ∀ b o, s.heap.get? b = some o → h'.get? b = some o) (ha : s.heap.objs.size ≤ a) : Leaves s.heap (C.D σ) h' (C.D (σ.upd a c)) := fun b o e hd => by
  refine ⟨k b o e, ?_⟩
  rintro (h | h)
  · have : b ≠ a := Nat.ne_of_lt (Nat.lt_of_lt_of_le (Heap.lt_size e) ha)
    rw [upd_ne this] at h; exact hd (.inl h)
  · exact hd (.inr h)

/-! membership -/
theorem g_inB (R : Rm C) (G : Good C σ ls s) {r : Bool} (ra : Real s.heap (C.D σ) a x) (rb : Real s.heap (C.D σ) b y) (h : inV σ x y = some r) :
    Gives C ls (compareOp .In a b) (.bool r) σ s ∧ Gives C ls (compareOp .NotIn a b) (.bool (!r)) σ s := by
  have dicts : ∀ {k : Int} {es : List (Int × V)}, x = .int k → dicOf σ y = some es → r = (lookD k es).isSome →
      Gives C ls (compareOp .In a b) (.bool r) σ s ∧ Gives C ls (compareOp .NotIn a b) (.bool (!r)) σ s := by
    rintro k es rfl hd rfl
    cases ra with | int _ t =>
    obtain ⟨a', ds, n, rfl, ho, hz, hn, h2, rs⟩ := dic_at R.ok G rb hd
    obtain ⟨kvs, da, ea, va⟩ := dictOf_of (prog := C.W.prog) (w := C.W.w) ho hn rs
    have e : (valueAt kvs k).isSome = (lookD k es).isSome := by
      rcases valueAt_of ea va k with ⟨h1, h2⟩ | ⟨v, x, h1, h2, _⟩ <;> rw [h1, h2] <;> rfl
    exact ⟨Gives.quiet G (wpAny_in_of (intKind_is _ _ k t) (sysMod h2) da.mapOf ⟨⟨_, rfl⟩, by rw [e]; exact .bool _⟩),
      Gives.quiet G (wpAny_notIn_of (intKind_is _ _ k t) (sysMod h2) da.mapOf ⟨⟨_, rfl⟩, by rw [e]; exact .bool _⟩)⟩
  unfold inV at h
  split at h
  · simp only [Option.map_eq_some_iff] at h
    obtain ⟨es, he, rfl⟩ := h
    exact dicts rfl he rfl
  · cases h
end
end Mine
end

section
open PySem PyProof.Rows
namespace Mine
section
variable {C : Cx} {ls : Ls} {σ : View} {s : Shared} {a b : Value} {x y d : V}

theorem sz {n : Nat} (h : n ≤ 2 ^ 24) : n ≤ sizeLine := by rw [sizeLine_eq]; exact h

theorem Reals.of_get {h : Heap} {D : Addr → Prop} : ∀ {vs : List Value} {xs : List V}, vs.length = xs.length → (∀ (i : Nat) (v : Value), vs[i]? = some v → ∃ x, xs[i]? = some x ∧ Real h D v x) → Reals h D vs xs
  | [], [], _, _ => .nil
  | [], _ :: _, h, _ => by simp at h
  | _ :: _, [], h, _ => by simp at h
  | v :: vs, x :: xs, hl, hg => by
    obtain ⟨x', e, r⟩ := hg 0 v rfl
    simp at e; subst e
    exact .cons r (Reals.of_get (by simpa using hl) fun i w hw => by simpa using hg (i + 1) w (by simpa using hw))

/-! copies -/
theorem listItems_of {xs : List V} (h : listItems σ x = some xs) : itemsOf σ x = some xs ∧ ∀ z, x ≠ .str z := by
  unfold listItems at h
  split at h
  · cases h
  · rename_i q; exact ⟨h, q⟩
theorem list_call (R : Rm C) (G : Good C σ ls s) {xs : List V} {Q : Value → Shared → Prop} (ra : Real s.heap (C.D σ) a x) (h : listItems σ x = some xs)
    (hQ : ∀ h' tk vs n, (∀ b o, s.heap.get? b = some o → h'.get? b = some o) → h'.get? s.heap.objs.size = some (listObj vs n) → vs.size ≤ 2 ^ 24 → Reals s.heap (C.D σ) vs.toList xs → Q (.ref s.heap.objs.size) { s with heap := h', toks := tk }) :
    wpAny (model C.W.prog C.W.w) C.A (call (.type "list") [a]) Q (fun _ _ => False) s := by
  obtain ⟨h, hstr⟩ := listItems_of h
  rcases itemsOf_cases h with ⟨z, rfl, rfl⟩ | hs | ⟨es, hd, rfl⟩
  · exact absurd rfl (hstr z)
  · obtain ⟨a', vs, n, rfl, ho, hz, rs⟩ := seq_at G ra hs
    rcases ho with ho | ho
    · exact call_list_seq a' (.inl rfl) ho rfl rfl (fun h' c' k e => hQ h' s.toks vs c' k e hz rs) (sz hz)
    · exact call_list_seq a' (.inr rfl) ho rfl rfl (fun h' c' k e => hQ h' s.toks vs c' k e hz rs) (sz hz)
  · obtain ⟨a', ds, n, rfl, ho, hz, hn, h2, rs⟩ := dic_at R.ok G ra hd
    obtain ⟨kvs, h1, h2', h3, h4⟩ := RealD.pairs (prog := C.W.prog) (w := C.W.w) rs
    have at' : s.heap.DictAt (intKind C.W.prog C.W.w) a' kvs n := ⟨_, ds, ho, ⟨rfl, rfl, rfl⟩, rfl, fun e he => h4 e (Array.mem_toList_iff.mpr he), h1, by rw [h2']; exact hn⟩
    have el : kvs.length = es.length := by have := congrArg List.length h2'; simpa using this
    have el2 : es.length = ds.size := by rw [← rs.length]; simp
    refine PySem.W.kdl_call (PySem.W.kdl_dict (sysMod h2)) R.hh at' (sz (by omega)) fun h' tk acc' c' k e hI => hQ h' tk acc' c' k e ?_ ?_
    · have := hI.1; omega
    · refine Reals.of_get (by have := hI.1; simp; omega) fun i v hv => ?_
      obtain ⟨k, w, hk, hkk⟩ := hI.2 i v (by simpa using hv)
      have hk2 : (es.map (·.1))[i]? = some k := by rw [← h2']; simp [hk]
      obtain ⟨t, rfl⟩ := Value.isInt_shape hkk
      refine ⟨.int k, ?_, .int _ _⟩
      have : (es.map fun p => V.int p.1) = (es.map (·.1)).map V.int := by simp
      rw [this, List.getElem?_map, hk2]; rfl
theorem g_list (R : Rm C) (G : Good C σ ls s) {xs : List V} (ra : Real s.heap (C.D σ) a x) (h : listItems σ x = some xs) : Gives C ls (call (.type "list") [a]) (.lst xs) σ s :=
  Gives.grown G (list_call R G ra h fun h' tk vs n k e hz rs => ⟨⟨h', tk, rfl, k⟩, fun h'' _ e' => by
    subst e'; exact .lst e hz G.newAddr (rs.leaves (leaves_keep k))⟩)
theorem dict_call (R : Rm C) (G : Good C σ ls s) {es : List (Int × V)} {Q : Value → Shared → Prop} (ra : Real s.heap (C.D σ) a x) (h : dicOf σ x = some es)
    (hQ : ∀ h', (∀ b o, s.heap.get? b = some o → h'.get? b = some o) → (∀ D', Leaves s.heap (C.D σ) h' D' → ∃ ds n, h'.get? s.heap.objs.size = some (dictObj ds n) ∧ ds.size ≤ 2 ^ 24 ∧ (es.map (·.1)).Nodup ∧ RealD h' D' ds.toList es) →
      Q (.ref s.heap.objs.size) { s with heap := h' }) :
    wpAny (model C.W.prog C.W.w) C.A (call (.type "dict") [a]) Q (fun _ _ => False) s := by
  obtain ⟨a', ds, n, rfl, ho, hz, hn, h2, rs⟩ := dic_at R.ok G ra h
  obtain ⟨kvs, da, ea, va⟩ := dictOf_of (prog := C.W.prog) (w := C.W.w) ho hn rs
  have el : kvs.length = es.length := by have := congrArg List.length ea; simpa using this
  have el2 : es.length = ds.size := by rw [← rs.length]; simp
  refine kt_call_dict (sysMod h2) da (sz (by omega)) fun h' hd' hs' => ?_
  have k : ∀ b o, s.heap.get? b = some o → h'.get? b = some o := fun b o e => hs'.extBut b o (Nat.ne_of_lt (Heap.lt_size e)) (Heap.get?_push_of_some _ e)
  refine hQ h' k fun D' L => ?_
  obtain ⟨es', n', g1, g2, g3, g4⟩ := dictObj_of (D := D') hd' ⟨ea, va.leaves L⟩
  exact ⟨es', n', g1, by omega, g3, g4⟩
theorem g_dictF (R : Rm C) (G : Good C σ ls s) {es : List (Int × V)} (ra : Real s.heap (C.D σ) a x) (h : dicOf σ x = some es) : Gives C ls (call (.type "dict") [a]) (.dct es) σ s :=
  Gives.grown G (dict_call R G ra h fun h' k hd => ⟨⟨h', s.toks, rfl, k⟩, fun h'' _ e' => by
    subst e'
    obtain ⟨ds, n, g1, g2, g3, g4⟩ := hd _ (leaves_keep k)
    exact .dct g1 g2 g3 (Nat.lt_of_lt_of_le R.ok.two G.larger) G.newAddr g4⟩)
theorem g_dict (R : Rm C) (G : Good C σ ls s) {es : List (Int × V)} {Q : Post} (ra : Real s.heap (C.D σ) a x) (h : dicOf σ x = some es) (q : ∀ a, σ a = none → Q (.ref a) (σ.upd a (.dict false es))) :
    TrE C ls (call (.type "dict") [a]) (RV C Q) σ s :=
  TrE.newCell (c := .dict false es) G (dict_call R G ra h fun h' k hd => ⟨_, h', s.toks, rfl, rfl, k, Nat.le_refl _, hd _ (leaves_upd G k (Nat.le_refl _))⟩) q

/-! items -/
theorem g_item (R : Rm C) (G : Good C σ ls s) (ra : Real s.heap (C.D σ) a x) (rb : Real s.heap (C.D σ) b y) (h : itemV σ x y = some d) : Gives C ls (getItem a b) d σ s := by
  have main : ∀ {i : Int}, y = .int i → (match seqOf σ x with
      | some xs => (idxOf i xs.length).bind fun j => xs[j]?
      | none => (dicOf σ x).bind fun es => lookD i es) = some d → Gives C ls (getItem a b) d σ s := by
    rintro i rfl h
    cases rb with | int _ t =>
    split at h
    · rename_i xs hs
      simp only [Option.bind_eq_some_iff] at h
      obtain ⟨j, hj, hx⟩ := h
      obtain ⟨a', vs, n, rfl, ho, hz, rs⟩ := seq_at G ra hs
      have el : vs.size = xs.length := by rw [← rs.length]; simp
      obtain ⟨v, hv, rv⟩ := rs.get hx
      obtain ⟨h1, h2, h3⟩ := idxOf_lt hj
      have hv' : vs[j]? = some v := by simpa using hv
      rcases ho with ho | ho
      · by_cases h0 : 0 ≤ i
        · have : j = i.toNat := by unfold idxOf at hj; rw [if_pos h0, if_pos h3] at hj; cases hj; rfl
          subst this
          exact Gives.quiet G (wpAny_getItem_list (isList_of ho) h0 (by omega) hv' ⟨⟨s.toks, rfl⟩, rv⟩)
        · have : j = (i + vs.size).toNat := by unfold idxOf at hj; rw [if_neg h0, if_pos h2] at hj; cases hj; rw [el]
          subst this
          exact Gives.quiet G (wpAny_getItem_list_neg (isList_of ho) (by omega) (by omega) (by omega) hv' ⟨⟨s.toks, rfl⟩, rv⟩)
      · exact Gives.quiet G (PyProof.Rows.getItem_tuple (isTup_of ho) (by omega) (by omega) (by rw [el, ← idxOf_eq]; exact hj) hv' ⟨⟨s.toks, rfl⟩, rv⟩)
    · simp only [Option.bind_eq_some_iff] at h
      obtain ⟨es, hd, hl⟩ := h
      obtain ⟨a', ds, n, rfl, ho, hz, hn, h2, rs⟩ := dic_at R.ok G ra hd
      obtain ⟨kvs, da, ea, va⟩ := dictOf_of (prog := C.W.prog) (w := C.W.w) ho hn rs
      rcases valueAt_of ea va i with ⟨_, h2⟩ | ⟨v, x, h1, h2, rv⟩
      · rw [h2] at hl; cases hl
      · rw [h2] at hl; cases hl
        exact Gives.quiet G (wpAny_getItem_of (intKind_is _ _ i t) da.mapOf h1 ⟨⟨_, rfl⟩, rv⟩)
  unfold itemV at h
  split at h
  · rename_i z i
    simp only [Option.bind_eq_some_iff, Option.map_eq_some_iff] at h
    obtain ⟨j, hj, c, hc, rfl⟩ := h
    cases ra with | str _ t k hz => cases rb with | int _ u =>
    obtain ⟨h1, h2, h3⟩ := idxOf_lt hj
    have hz' : z.length ≤ 2 ^ 24 := hz
    have hc' : z.cps[j]? = some c := by simpa using hc
    refine Gives.quiet G (P.getItem_str (c := c) ?_ (by rw [← idxOf_eq, hj]; exact hc') ⟨⟨_, rfl⟩, .str _ _ (strOk_one k hc') (by simp)⟩)
    simp; omega
  · exact main rfl h
  · cases h

/-! numbers -/
theorem g_mkTup (G : Good C σ ls s) {vs : List Value} {xs : List V} (r : Reals s.heap (C.D σ) vs xs) (h : xs.length ≤ 1000) : Gives C ls (newTuple vs) (.tup xs) σ s := by
  have hl := r.length
  exact Gives.new G (new_tup (vs := vs.toArray) G (by simp; omega) (by simpa using r)) (wpAny_newTuple ⟨rfl, s.toks, rfl⟩ (sz (by omega)))
theorem g_mkList (G : Good C σ ls s) {vs : List Value} {xs : List V} (r : Reals s.heap (C.D σ) vs xs) (h : xs.length ≤ 1000) : Gives C ls (newList vs) (.lst xs) σ s := by
  have hl := r.length
  exact Gives.new G (new_lst (vs := vs.toArray) G (by simp; omega) (by simpa using r)) (wpAny_newList ⟨rfl, s.toks, rfl⟩ (sz (by omega)))
theorem g_mkListM (G : Good C σ ls s) {vs : List Value} {xs : List V} {Q : Post} (r : Reals s.heap (C.D σ) vs xs) (h : xs.length ≤ 1000) (q : ∀ a, σ a = none → Q (.ref a) (σ.upd a (.list false xs))) :
    TrE C ls (newList vs) (RV C Q) σ s := by
  have hl := r.length
  refine TrE.newCell (c := .list false xs) G (wpAny_newList ⟨_, _, s.toks, rfl, rfl, fun b o e => Heap.get?_push_of_some _ e, Nat.le_refl _, vs.toArray, 0, Heap.get?_push_size _ rfl, by simp; omega, ?_⟩ (sz (by omega))) q
  simpa using r.leaves (leaves_upd G (fun b o e => Heap.get?_push_of_some _ e) (Nat.le_refl _))
end
end Mine
end

section
open PySem PyProof.Rows
namespace Mine

section
variable {prog : Program} {w : World} {A : Around} {E : Value → Shared → Prop} {s : Shared}
theorem subscripted_ops (slice : Expr) (o i : Value) : ∃ ops, subscripted slice false o i = operate ops (getItem o i) := by
  unfold subscripted
  split
  · exact ⟨_, rfl⟩
  · rename_i h; cases h
  · exact ⟨_, rfl⟩
theorem subTail {value slice : Expr} {o i : Value} {T id : String} {Q : Value → Shared → Prop} (hT : s.TypeIs o T)
    (hl : typeLookup (.type T) "__getitem__" = pure (some (.builtin id))) (h : wpAny (model prog w) A (getItem o i) Q E s) : wpAny (model prog w) A (subscriptTail value slice o i) Q E s := by
  obtain ⟨ops, hs⟩ := subscripted_ops slice o i
  unfold subscriptTail
  refine wpAny_bind ?_
  rw [getitemInPython_of_ne hT.not_modules]
  refine wpAny_bind (wpAny_specialOf hT hl ?_)
  have fin : wpAny (model prog w) A (subscripted slice false o i) (fun r s₃ => wpAny (model prog w) A (letTemporaryGo value o r >>= fun _ => pure r) Q E s₃) E s := by
    rw [hs]
    exact wpAny_operating (wpAny_mono h (fun r s₃ h₃ => wpAny_bind (wpAny_letTemporaryGo (wpAny_pure h₃))) fun _ _ x => x)
  first
    | exact wpAny_pure (wpAny_bind fin)
    | exact wpAny_bind (wpAny_pure (wpAny_bind fin))
    | exact wpAny_bind fin

theorem clipI_eq (n : Nat) (i : Int) : clipI n i = clipAt n i := by
  unfold clipI clipAt
  split
  · rename_i h; omega
  · rename_i h; omega

theorem sliceL_eq (items : Array Value) (lo : Option Int) (hi : Option Int) : (slicePick items lo hi none).toList = sliceL items.toList (lo.getD 0) hi := by
  rw [slicePick_plain]
  unfold sliceL
  have e1 : lo.elim 0 (clipAt items.size) = clipI items.toList.length (lo.getD 0) := by
    cases lo with
    | none => simp [clipI]
    | some i => simp [clipI_eq]
  have e2 : hi.elim items.size (clipAt items.size) = hi.elim items.toList.length (clipI items.toList.length) := by
    cases hi with
    | none => simp
    | some i => simp [clipI_eq]
  rw [e1, e2]
  show List.take _ (List.drop _ _) = List.drop _ (List.take _ _)
  rw [List.drop_take]

theorem slicePart {v : Value} {k : Option Int} {Q : Option Int → Shared → Prop} (hv : IsPart v k) (h : Q k s) : wpAny (model prog w) A (Builtin.Slice.slicePartIndex v) Q E s := by
  cases hv with
  | none => exact wpAny_pure h
  | int i t =>
    unfold Builtin.Slice.slicePartIndex
    rw [if_neg (show ¬ ((Value.int i t == Value.none) = true) from Bool.false_ne_true)]
    refine wpAny_bind (wpAny_specialOf (T := "int") (typeIs_int s i t) int_index ?_)
    simp only [Option.isNone_some, Bool.false_eq_true, if_false]
    exact wpAny_bind (wpAny_of_eq (a := i) rfl (wpAny_pure h))

theorem adjust_plain (lo hi : Option Int) (n : Nat) : Builtin.Slice.sliceAdjust lo hi 1 (n : Int) = (((lo.elim 0 (clipAt n) : Nat) : Int), ((hi.elim n (clipAt n) : Nat) : Int)) := by
  unfold Builtin.Slice.sliceAdjust
  have h1 : ¬ ((1 : Int) < 0) := by omega
  simp only [h1, if_false]
  refine Prod.ext ?_ ?_
  · cases lo with
    | none => rfl
    | some i => simp only [Option.elim, clipAt_cast]; split <;> omega
  · cases hi with
    | none => rfl
    | some i => simp only [Option.elim, clipAt_cast]; split <;> omega
theorem places_plain (a b : Nat) : Builtin.Slice.slicePlaces (a : Int) (b : Int) 1 = b - a := by
  unfold Builtin.Slice.slicePlaces
  simp only [show (1 : Int) > 0 by omega, if_true]
  split <;> omega
theorem sliceApplied_plain {sl : Addr} {n : Nat} {vl vu : Value} {lo hi : Option Int} {Q : Int × Int × Nat → Shared → Prop} (hs : s.heap.IsSliceOf sl vl vu .none) (pl : IsPart vl lo) (pu : IsPart vu hi)
    (h : Q (((lo.elim 0 (clipAt n) : Nat) : Int), 1, hi.elim n (clipAt n) - lo.elim 0 (clipAt n)) s) :
    wpAny (model prog w) A (Builtin.Slice.sliceApplied (.ref sl) (pure (n : Int))) Q E s := by
  obtain ⟨os, hos, hcs, hds⟩ := id hs
  unfold Builtin.Slice.sliceApplied Builtin.Slice.sliceFields
  refine wpAny_bind (wpAny_bind (wpAny_field hos hds (x := vl) rfl (wpAny_bind (wpAny_field hos hds (x := vu) rfl (wpAny_bind (wpAny_field hos hds (x := .none) rfl (wpAny_pure ?_)))))))
  refine wpAny_bind (slicePart .none ?_)
  show wpAny _ _ (if ((1 : Int) == 0) = true then _ else _) _ _ s
  rw [if_neg (by decide)]
  refine wpAny_bind (slicePart pl (wpAny_bind (slicePart pu (wpAny_bind (wpAny_pure ?_)))))
  show wpAny _ _ (match Builtin.Slice.sliceAdjust lo hi 1 (n : Int) with | (lo, hi) => pure (lo, (1 : Int), Builtin.Slice.slicePlaces lo hi 1)) _ _ s
  rw [adjust_plain]
  show wpAny _ _ (pure (_, (1 : Int), Builtin.Slice.slicePlaces _ _ 1)) _ _ s
  rw [places_plain]
  exact wpAny_pure h
theorem pick_plain (xs : Array Value) (a m : Nat) : ((List.range m).filterMap fun (k : Nat) => xs[((a : Int) + (k : Int) * 1).toNat]?).toArray = ((xs.toList.drop a).take m).toArray := by
  have e : (fun (k : Nat) => xs[((a : Int) + (k : Int) * 1).toNat]?) = fun k => xs[a + k]? := by
    funext k
    have : ((a : Int) + (k : Int) * 1).toNat = a + k := by omega
    rw [this]
  rw [e]
  have := pick_run xs a m
  rw [List.filterMap_map] at this
  have e2 : ((fun x => xs[x]?) ∘ fun x => a + x) = fun k => xs[a + k]? := rfl
  rw [e2] at this
  rw [this]

/-- a tuple's part; the whole is the tuple itself -/
theorem getItem_tuple_slice {t sl : Addr} {items : Array Value} {n : Nat} {vl vu : Value} {lo hi : Option Int} {Q : Value → Shared → Prop} (ht : s.heap.get? t = some (tupObj items n)) (hs : s.heap.IsSliceOf sl vl vu .none)
    (pl : IsPart vl lo) (pu : IsPart vu hi)
    (h1 : sliceL items.toList (lo.getD 0) hi = items.toList → Q (.ref t) s)
    (h2 : Q (.ref s.heap.objs.size) { s with heap := s.heap.push (tupObj (sliceL items.toList (lo.getD 0) hi).toArray 0) })
    (hsz : items.size ≤ sizeLine) : wpAny (model prog w) A (getItem (.ref t) (.ref sl)) Q E s := by
  have et : sliceL items.toList (lo.getD 0) hi = (items.toList.drop (lo.elim 0 (clipAt items.size))).take (hi.elim items.size (clipAt items.size) - lo.elim 0 (clipAt items.size)) := by
    rw [← sliceL_eq, slicePick_plain]
  have ht' : IsTup s.heap t items := ⟨_, ht, rfl, n, rfl⟩
  have hdrop : sizeOk (.seq (sliceL items.toList (lo.getD 0) hi).toArray) := by
    show (sliceL items.toList (lo.getD 0) hi).toArray.size ≤ sizeLine
    rw [et, List.size_toArray, List.length_take, List.length_drop, Array.length_toList]
    omega
  obtain ⟨os, hos, hcs, hds⟩ := id hs
  have hTs : s.TypeIs (.ref sl) "slice" := ⟨os, hos, hcs⟩
  unfold getItem
  try with_reducible refine wpAny_holding ?_
  first | refine wpAny_bind (wpAny_pure ?_) | skip
  refine wpAny_bind (wpAny_sequenceKey ht'.typeIs (by decide) ?_)
  refine wpAny_bind (wpAny_callSpecial?_slot (name := Str.ofString "__getitem__") ht'.typeIs slot_tuple_getitem
    (wpAny_call_entry slot_tuple_getitem ht'.typeIs entry_tuple_getitem ?_ (args_tuple_getitem _ _)))
  show wpAny _ _ (Builtin.Tuple.tupleItemsOf (.ref t) >>= _) _ _ s
  refine wpAny_bind (tupleItemsOf_ ht' ?_)
  refine wpAny_bind (wpAny_typeOf hTs ?_)
  rw [if_pos (by decide)]
  refine wpAny_bind (sliceApplied_plain hs pl pu ?_)
  show wpAny _ _ (if (((lo.elim 0 (clipAt items.size) : Nat) : Int) == 0 && (1 : Int) == 1 && (hi.elim items.size (clipAt items.size) - lo.elim 0 (clipAt items.size)) == items.size) = true then _ else _) _ _ s
  by_cases hw : (((lo.elim 0 (clipAt items.size) : Nat) : Int) == 0 && (1 : Int) == 1 && (hi.elim items.size (clipAt items.size) - lo.elim 0 (clipAt items.size)) == items.size) = true
  · rw [if_pos hw]
    simp only [Bool.and_eq_true, beq_iff_eq] at hw
    have h0 : lo.elim 0 (clipAt items.size) = 0 := by have := hw.1.1; omega
    have hq : Q (.ref t) s := h1 (by rw [et, hw.2, h0, List.drop_zero, List.take_of_length_le (by simp)])
    refine wpAny_bind ?_
    unfold Builtin.Tuple.tupleIsExact
    refine wpAny_bind (wpAny_typeOf ht'.typeIs (wpAny_pure ?_))
    rw [if_pos (by decide)]
    refine wpAny_bind (wpAny_rule ?_)
    exact wpAny_pure ⟨_, rfl, wpAny_pure hq⟩
  · rw [if_neg hw, pick_plain, ← et]
    first
      | exact wpAny_bind (m := Builtin.Tuple.tupleExact _) (wpAny_newObj_type (wpAny_pure ⟨_, rfl, wpAny_pure h2⟩) hdrop)
      | exact wpAny_bind (m := Builtin.Tuple.tupleExact _) (wpAny_newObj_type (wpAny_bind (wpAny_pure (wpAny_pure ⟨_, rfl, wpAny_pure h2⟩))) hdrop)
      | exact wpAny_bind (wpAny_bind (m := Builtin.Tuple.tupleExact _) (wpAny_newObj_type (wpAny_pure (wpAny_pure ⟨_, rfl, wpAny_pure h2⟩)) hdrop))
      | exact wpAny_bind (wpAny_bind (m := Builtin.Tuple.tupleExact _) (wpAny_newObj_type (wpAny_pure ⟨_, rfl, wpAny_pure h2⟩) hdrop))
end
end Mine
end

section
open PySem PyProof.Rows
namespace Mine

theorem strIdx_plain (lo hi : Option Int) (n : Nat) : Builtin.Str.strSliceIndices lo hi 1 n = (List.range (hi.elim n (clipAt n) - lo.elim 0 (clipAt n))).map (fun k => lo.elim 0 (clipAt n) + k) := by
  have e0 : Builtin.Str.strSliceIndices lo hi 1 n = sliceRange (lo.elim 0 fun i => max 0 (min (if i < 0 then i + (n : Int) else i) n)) (hi.elim (n : Int) fun i => max 0 (min (if i < 0 then i + (n : Int) else i) n)) 1 := by
    cases lo <;> cases hi <;> rfl
  have e1 : (lo.elim 0 fun i => max 0 (min (if i < 0 then i + (n : Int) else i) n)) = ((lo.elim 0 (clipAt n) : Nat) : Int) := by
    cases lo with
    | none => rfl
    | some i => simp only [Option.elim, clipAt_cast]
  have e2 : (hi.elim (n : Int) fun i => max 0 (min (if i < 0 then i + (n : Int) else i) n)) = ((hi.elim n (clipAt n) : Nat) : Int) := by
    cases hi with
    | none => rfl
    | some i => simp only [Option.elim, clipAt_cast]
  rw [e0, e1, e2]
  unfold sliceRange
  simp only [show (1 : Int) > 0 by omega, if_true]
  generalize lo.elim 0 (clipAt n) = a
  generalize hi.elim n (clipAt n) = b
  have hc : (if (a : Int) < (b : Int) then ((b : Int) - a + 1 - 1) / 1 else 0).toNat = b - a := by split <;> omega
  rw [hc]
  exact List.map_congr_left fun k _ => by omega
theorem filterMap_run {α : Type} (xs : List α) (a m : Nat) : ((List.range m).map fun k => a + k).filterMap (xs[·]?) = (xs.drop a).take m := by
  induction m with
  | zero => simp
  | succ m ih =>
    rw [List.range_succ, List.map_append, List.filterMap_append, ih, List.take_add_one, List.getElem?_drop]
    congr 1
theorem strPick (x : Str) (lo hi : Option Int) : (Builtin.Str.strSliceIndices lo hi 1 x.length).filterMap (x.cps[·]?) = sliceL x.cps.toList (lo.getD 0) hi := by
  have e : (fun i : Nat => x.cps[i]?) = fun i => x.cps.toList[i]? := by funext i; simp
  rw [strIdx_plain, e, filterMap_run]
  unfold sliceL
  have hn : x.length = x.cps.toList.length := by simp [Str.length]
  have e1 : lo.elim 0 (clipAt x.length) = clipI x.cps.toList.length (lo.getD 0) := by
    rw [hn]; cases lo with
    | none => simp [clipI]
    | some i => simp [clipI_eq]
  have e2 : hi.elim x.length (clipAt x.length) = hi.elim x.cps.toList.length (clipI x.cps.toList.length) := by
    rw [hn]; cases hi with
    | none => simp
    | some i => simp [clipI_eq]
  rw [e1, e2]
  show List.take _ (List.drop _ _) = List.drop _ (List.take _ _)
  rw [List.drop_take]
theorem sliceL_sublist {α : Type} (xs : List α) (a : Int) (b : Option Int) : (sliceL xs a b).Sublist xs := (List.drop_sublist _ _).trans (List.take_sublist _ _)
theorem strOk_slice {x : Str} (hx : PyData.strOk x = true) {l : List Nat} (h : l.Sublist x.cps.toList) : PyData.strOk ⟨l.toArray⟩ = true := by
  unfold PyData.strOk at *
  rw [← Array.all_toList] at hx ⊢
  exact List.all_eq_true.mpr fun c hc => List.all_eq_true.mp hx c (h.subset (by simpa using hc))
theorem slicePicked_whole (x : Str) (lo hi : Option Int) (h : (Builtin.Str.strSliceIndices lo hi 1 x.length).length = x.length) : sliceL x.cps.toList (lo.getD 0) hi = x.cps.toList := by
  rw [strIdx_plain] at h
  simp at h
  have hn : x.length = x.cps.toList.length := by simp [Str.length]
  refine (sliceL_sublist _ _ _).eq_of_length ?_
  unfold sliceL
  have e1 : lo.elim 0 (clipAt x.length) = clipI x.cps.toList.length (lo.getD 0) := by
    rw [hn]; cases lo with
    | none => simp [clipI]
    | some i => simp [clipI_eq]
  have e2 : hi.elim x.length (clipAt x.length) = hi.elim x.cps.toList.length (clipI x.cps.toList.length) := by
    rw [hn]; cases hi with
    | none => simp
    | some i => simp [clipI_eq]
  rw [e1, e2] at h
  rw [List.length_drop, List.length_take]
  have hle : hi.elim x.cps.toList.length (clipI x.cps.toList.length) ≤ x.cps.toList.length := by
    cases hi with
    | none => simp
    | some i => simp only [Option.elim, clipI]; split <;> omega
  rw [Nat.min_eq_left hle, ← hn]; exact h

section
variable {C : Cx} {ls : Ls} {σ : View} {s : Shared} {a b : Value} {x y d : V}

/-- what can be subscripted -/
theorem sub_type (R : Rm C) (G : Good C σ ls s) (ra : Real s.heap (C.D σ) a x) (h : (∃ z, x = .str z) ∨ (∃ xs, seqOf σ x = some xs) ∨ ∃ es, dicOf σ x = some es) :
    ∃ T id, s.TypeIs a T ∧ typeLookup (.type T) "__getitem__" = pure (some (.builtin id)) := by
  rcases h with ⟨z, rfl⟩ | ⟨xs, hs⟩ | ⟨es, hd⟩
  · cases ra; exact ⟨"str", _, typeIs_str _ _ _, F.slot_str_getitem.lookup⟩
  · obtain ⟨a', vs, n, rfl, ho, hz, rs⟩ := seq_at G ra hs
    rcases ho with ho | ho
    · exact ⟨"list", _, (isList_of ho).typeIs, slot_list_getitem.lookup⟩
    · exact ⟨"tuple", _, (isTup_of ho).typeIs, slot_tuple_getitem.lookup⟩
  · obtain ⟨a', ds, n, rfl, ho, hz, hn, h2, rs⟩ := dic_at R.ok G ra hd
    obtain ⟨kvs, da, ea, va⟩ := dictOf_of (prog := C.W.prog) (w := C.W.w) ho hn rs
    exact ⟨"dict", _, da.mapOf.typeIs, slot_dict_getitem.lookup⟩
theorem itemV_base (h : itemV σ x y = some d) : (∃ z, x = .str z) ∨ (∃ xs, seqOf σ x = some xs) ∨ ∃ es, dicOf σ x = some es := by
  unfold itemV at h
  split at h
  · exact .inl ⟨_, rfl⟩
  · split at h
    · rename_i e; exact .inr (.inl ⟨_, e⟩)
    · simp only [Option.bind_eq_some_iff] at h
      obtain ⟨es, e, _⟩ := h; exact .inr (.inr ⟨es, e⟩)
  · cases h
theorem g_itemT (R : Rm C) (G : Good C σ ls s) {u v : Expr} (ra : Real s.heap (C.D σ) a x) (rb : Real s.heap (C.D σ) b y) (h : itemV σ x y = some d) : Gives C ls (subscriptTail u v a b) d σ s := by
  obtain ⟨T, id, hT, hl⟩ := sub_type R G ra (itemV_base h)
  exact subTail hT hl (g_item R G ra rb h)

theorem g_slice (R : Rm C) (G : Good C σ ls s) {u v : Expr} {vl vu : Value} {lo hi : Option Int} (ra : Real s.heap (C.D σ) a x) (pl : IsPart vl lo) (pu : IsPart vu hi) (h : sliceV σ x (lo.getD 0) hi = some d) :
    Gives C ls (newFields "slice" [vl, vu, .none] >>= fun i => subscriptTail u v a i) d σ s := by
  refine TrE.bind ?_
  have hb : (∃ z, x = .str z) ∨ (∃ xs, seqOf σ x = some xs) ∨ ∃ es, dicOf σ x = some es := by
    unfold sliceV at h
    split at h
    · exact .inl ⟨_, rfl⟩
    · exact .inr (.inl ⟨_, rfl⟩)
    · rename_i h1 h2
      simp only [Option.map_eq_some_iff] at h
      obtain ⟨xs, hx, _⟩ := h
      refine .inr (.inl ⟨xs, ?_⟩)
      cases x <;> simp_all [seqOf]
  refine wpAny_newObj_type ⟨σ, G.push _ s.toks, Step.push _ _ _ _, ?_⟩ (by show (3 : Nat) ≤ sizeLine + 2; rw [sizeLine_eq]; decide)
  have G' := G.push (s := s) { cls := .type "slice", dict := none, data := .fields #[vl, vu, .none] } s.toks
  have ra' := ra.push (s := s) G { cls := .type "slice", dict := none, data := .fields #[vl, vu, .none] }
  obtain ⟨T, id, hT, hl⟩ := sub_type R G' ra' hb
  have hs : (s.heap.push { cls := .type "slice", dict := none, data := .fields #[vl, vu, .none] }).IsSliceOf s.heap.objs.size vl vu .none := ⟨_, Heap.get?_push_size _ rfl, rfl, rfl⟩
  have lists : ∀ {xs : List V}, lstOf σ x = some xs → d = .lst (sliceL xs (lo.getD 0) hi) → Gives C ls (getItem a (.ref s.heap.objs.size)) d σ { s with heap := s.heap.push { cls := .type "slice", dict := none, data := .fields #[vl, vu, .none] } } := by
    rintro xs hx rfl
    obtain ⟨a', vs, n, rfl, ho, hz, rs⟩ := lst_at G' ra' hx
    refine Gives.new G' ?_ (wpAny_getItem_list_slice (isList_of ho) hs pl pu .none (by simp) ⟨rfl, s.toks, rfl⟩ (sz hz))
    refine new_lst G' (Nat.le_trans (slicePick_size_le _ _ _ _) hz) ?_
    rw [sliceL_eq]
    have el := rs.length
    unfold sliceL
    rw [show vs.toList.length = xs.length from el]
    exact Reals.drop _ (Reals.take _ rs)
  refine subTail hT hl ?_
  unfold sliceV at h
  split at h
  · cases h
    rename_i z
    cases ra' with
    | str _ t k hz =>
      have hz' : z.length ≤ 2 ^ 24 := hz
      have hsl := strPick z lo hi
      have part : ∀ {v : Value} {k : Option Int}, IsPart v k → ∃ p : Option (Int × Tok), v = partValue p ∧ p.map (·.1) = k := by
        intro v k hp
        cases hp with
        | none => exact ⟨none, rfl, rfl⟩
        | int i t => exact ⟨some (i, t), rfl, rfl⟩
      obtain ⟨p, rfl, hp⟩ := part pl
      obtain ⟨q, rfl, hq⟩ := part pu
      subst hp; subst hq
      have hpk : slicePicked z p q none = Builtin.Str.strSliceIndices (p.map (·.1)) (q.map (·.1)) 1 z.length := rfl
      refine Gives.quiet G' (wpAny_getItem_str_slice (l := p) (u := q) (st := none) hs rfl ?_)
      unfold sliceMade
      split
      · rename_i hw
        simp only [Option.map_none, Option.getD_none, beq_self_eq_true, Bool.true_and, beq_iff_eq] at hw
        rw [hpk] at hw
        refine ⟨⟨s.toks, rfl⟩, ?_⟩
        rw [slicePicked_whole z _ _ hw]
        exact .str _ _ k hz
      · rw [hpk, hsl]
        have hle : (sliceL z.cps.toList ((p.map (·.1)).getD 0) (q.map (·.1))).length ≤ z.cps.toList.length := (sliceL_sublist _ _ _).length_le
        refine ⟨sz ?_, ⟨_, rfl⟩, .str _ _ (strOk_slice k (sliceL_sublist _ _ _)) ?_⟩
        · show (sliceL _ _ _).toArray.size ≤ _
          rw [List.size_toArray]
          simp at hle; omega
        · show (sliceL _ _ _).toArray.size ≤ _
          rw [List.size_toArray]
          simp at hle; omega
  · cases h
    rename_i xs
    have ra'' := ra'
    cases ra' with
    | tup ho hz hd rs =>
      rename_i t vs n
      have el : vs.toList.length = xs.length := rs.length
      have rsl : Reals (s.heap.push { cls := .type "slice", dict := none, data := .fields #[vl, vu, .none] }) (C.D σ) (sliceL vs.toList (lo.getD 0) hi) (sliceL xs (lo.getD 0) hi) := by
        unfold sliceL
        rw [el]
        exact Reals.drop _ (Reals.take _ rs)
      have key : wpAny (model C.W.prog C.W.w) C.A (getItem (.ref t) (.ref s.heap.objs.size)) (fun v s' => (v = .ref t ∧ sliceL vs.toList (lo.getD 0) hi = vs.toList ∧ s' = { s with heap := s.heap.push { cls := .type "slice", dict := none, data := .fields #[vl, vu, .none] } }) ∨
          (v = .ref (s.heap.push { cls := .type "slice", dict := none, data := .fields #[vl, vu, .none] }).objs.size ∧ s' = { s with heap := (s.heap.push { cls := .type "slice", dict := none, data := .fields #[vl, vu, .none] }).push (tupObj (sliceL vs.toList (lo.getD 0) hi).toArray 0) })) (fun _ _ => False)
          { s with heap := s.heap.push { cls := .type "slice", dict := none, data := .fields #[vl, vu, .none] } } :=
        getItem_tuple_slice ho hs pl pu (fun e => .inl ⟨rfl, e, rfl⟩) (.inr ⟨rfl, rfl⟩) (sz hz)
      refine wpAny_mono key (fun v s' hv => ?_) fun _ _ x => x
      rcases hv with ⟨rfl, e, rfl⟩ | ⟨rfl, rfl⟩
      · refine ⟨σ, G', Step.refl _ _ _, ?_, rfl⟩
        rw [e] at rsl
        exact .tup ho hz hd rsl
      · refine ⟨σ, G'.push _ s.toks, Step.push _ _ _ _, ?_, rfl⟩
        have hle : (sliceL vs.toList (lo.getD 0) hi).length ≤ vs.toList.length := (sliceL_sublist _ _ _).length_le
        exact new_tup G' (by simp at hle ⊢; omega) (by simpa using rsl)
  · simp only [Option.map_eq_some_iff] at h
    obtain ⟨xs, hx, rfl⟩ := h
    exact lists hx rfl
end
end Mine
end

section
open PySem PyProof.Rows
namespace Mine
section
variable {C : Cx} {ls : Ls} {σ : View} {s : Shared} {a b : Value} {x y d : V}

/-! all -/
/-! strings -/
theorem g_mul (G : Good C σ ls s) (ra : Real s.heap (C.D σ) a x) (rb : Real s.heap (C.D σ) b y) (h : mulV σ x y = some d) : Gives C ls (binaryOp .Mult a b) d σ s := by
  unfold mulV at h
  split at h
  · split at h
    · rename_i hm
      cases h; cases ra; cases rb
      exact Gives.quiet G (PySem.P.mul_int ⟨⟨_, rfl⟩, .int _ _⟩ (mulFits_ok hm))
    · cases h
  · cases h

/-! lists that change -/
theorem setL {l : Addr} {xs ys : List V} {vs : Array Value} {n : Nat} {f : Array Value → Array Value} (G : Good C σ ls s) (e : σ l = some (.list false xs)) (ho : s.heap.get? l = some (listObj vs n)) (hz : (f vs).size ≤ 2 ^ 24)
    (r : Reals s.heap (C.D σ) (f vs).toList ys) : Good C (σ.upd l (.list false ys)) ls { s with heap := s.heap.update l (Obj.mapSeq f) } ∧ Step C.own s.heap σ (s.heap.update l (Obj.mapSeq f)) (σ.upd l (.list false ys)) := by
  have hs : Heap.SameBut l s.heap (s.heap.update l (Obj.mapSeq f)) := Heap.SameBut.update ..
  have S := Step.setCell (own := C.own) (c' := .list false ys) e rfl hs
  refine ⟨G.setCell (tk := s.toks) e rfl hs ⟨f vs, if (f vs).size == vs.size then n else n + 1, Heap.get?_update_self _ ho rfl, hz, ?_⟩, S⟩
  exact r.leaves (G.leaves S)
theorem set_none {v : Value} {σ' : View} {s' : Shared} {Q : Post} (hv : v = .none) (G : Good C σ' ls s') (S : Step C.own s.heap σ s'.heap σ') (q : Q .none σ') :
    ∃ σ'', Good C σ'' ls s' ∧ Step C.own s.heap σ s'.heap σ'' ∧ RV C Q v σ'' s' := ⟨σ', G, S, .none, by rw [hv]; exact .none, q⟩

theorem g_append (G : Good C σ ls s) {l : Addr} {xs : List V} {Q : Post} (ra : Real s.heap (C.D σ) a (.ref l)) (rb : Real s.heap (C.D σ) b y) (e : σ l = some (.list false xs)) (hl : xs.length < big) (q : Q .none (σ.upd l (.list false (xs ++ [y])))) :
    TrE C ls (call (.builtin "list.append") [a, b]) (RV C Q) σ s := by
  cases ra
  obtain ⟨vs, n, ho, hz, rs⟩ := G.sim l _ e
  have el : vs.size = xs.length := by rw [← rs.length]; simp
  have hl' : xs.length < 2 ^ 24 := hl
  obtain ⟨G', S'⟩ := setL (f := fun x => x.push b) (ys := xs ++ [y]) G e ho (by rw [Array.size_push]; omega) (by rw [Array.toList_push]; exact rs.append (.cons rb .nil))
  exact call_meets F.slot_list_append ⟨_, ho, rfl⟩ F.entry_list_append (F.args_list_append_2 _ _) (PySem.list_append l vs n b (sz hz)) ⟨ho, set_none rfl G' S' q⟩
/-! dicts that change -/
theorem setD {l : Addr} {xs ys : List (Int × V)} {kvs : List (Int × Value)} {h' : Heap} {tk : Nat} (G : Good C σ ls s) (e : σ l = some (.dict false xs)) (hd : h'.DictOf (intKind C.W.prog C.W.w) l kvs) (hs : Heap.SameBut l s.heap h')
    (p : Par s.heap (C.D σ) kvs ys) (hz : ys.length ≤ 2 ^ 24) : Good C (σ.upd l (.dict false ys)) ls { s with heap := h', toks := tk } ∧ Step C.own s.heap σ h' (σ.upd l (.dict false ys)) := by
  have S := Step.setCell (own := C.own) (c' := .dict false ys) e rfl hs
  obtain ⟨es', n', g1, g2, g3, g4⟩ := dictObj_of (D := C.D (σ.upd l (.dict false ys))) (xs := ys) hd ⟨p.1, p.2.leaves (G.leaves S)⟩
  exact ⟨G.setCell e rfl hs ⟨es', n', g1, by omega, g3, g4⟩, S⟩
theorem cellD {l : Addr} {xs : List (Int × V)} (G : Good C σ ls s) {ro : Bool} (e : σ l = some (.dict ro xs)) : ∃ kvs, s.heap.DictOf (intKind C.W.prog C.W.w) l kvs ∧ Par s.heap (C.D σ) kvs xs ∧ xs.length ≤ 2 ^ 24 ∧ (kvs.map (·.1)).Nodup := by
  obtain ⟨ds, n, ho, hz, hn, rs⟩ := G.sim l _ e
  obtain ⟨kvs, da, ea, va⟩ := dictOf_of (prog := C.W.prog) (w := C.W.w) ho hn rs
  exact ⟨kvs, da, ⟨ea, va⟩, by have := rs.length; simp at this; omega, by rw [ea]; exact hn⟩
theorem g_popD (G : Good C σ ls s) {l : Addr} {k : Int} {xs : List (Int × V)} {Q : Post} {more : List Value} (hm : more = [] ∨ ∃ d, more = [d]) (ra : Real s.heap (C.D σ) a (.ref l)) (rb : Real s.heap (C.D σ) b (.int k)) (e : σ l = some (.dict false xs)) (hx : lookD k xs = some x) (q : Q x (σ.upd l (.dict false (dropD k xs)))) :
    TrE C ls (call (.builtin "dict.pop") (a :: b :: more)) (RV C Q) σ s := by
  cases ra
  cases rb with | int _ t =>
  obtain ⟨kvs, da, p, hz, hn⟩ := cellD G e
  have hlen := p.length
  rcases valueAt_of p.1 p.2 k with ⟨_, h2⟩ | ⟨v, x', h1, h2, rv⟩
  · rw [h2] at hx; cases hx
  rw [h2] at hx; cases hx
  refine call_meetsIn F.slot_dict_pop da.mapOf.typeIs F.entry_dict_pop ?_ (meets_dict_pop_there (intKind _ _) l (intKind_is _ _ k t) more hm rfl) ⟨kvs, v, da, sz (by omega), h1, fun h' hd' hs' => ?_⟩
  · rcases hm with rfl | ⟨d, rfl⟩
    · exact F.args_dict_pop_2 _ _
    · exact F.args_dict_pop_3 _ _ _
  · rw [without_eq k hn] at hd'
    obtain ⟨G', S'⟩ := setD (tk := s.toks + 1) (ys := dropD k xs) G e hd' hs' p.drop (Nat.le_trans dropD_length_le hz)
    exact ⟨_, G', S', x, rv.step G S', q⟩
theorem g_setItem (G : Good C σ ls s) {l : Addr} {k : Int} {xs : List (Int × V)} {v : Value} {Q : View → Prop} (ra : Real s.heap (C.D σ) a (.ref l)) (rb : Real s.heap (C.D σ) b (.int k)) (rv : Real s.heap (C.D σ) v x) (e : σ l = some (.dict false xs)) (hl : xs.length < big)
    (q : Q (σ.upd l (.dict false (putD k x xs)))) : TrE C ls (setItem a b v) (fun _ σ' _ => Q σ') σ s := by
  cases ra
  cases rb with | int _ t =>
  obtain ⟨kvs, da, p, hz, hn⟩ := cellD G e
  have hlen := p.length
  have hl' : xs.length < 2 ^ 24 := hl
  refine wpAny_setItem_pairs (intKind_is _ _ k t) da (fun h' hd' hs' => ?_) (sz (by omega))
  rw [stored_eq k v hn] at hd'
  obtain ⟨G', S'⟩ := setD (tk := s.toks + 1) (ys := putD k x xs) G e hd' hs' (p.put rv) (Nat.le_trans putD_length_le (by omega))
  exact ⟨_, G', S', q⟩
end
end Mine
end

section
open PySem PyProof.Rows
namespace Mine
section
variable {C : Cx} {ls : Ls} {σ : View} {s : Shared} {a b c : Value} {x y d : V}
theorem g_popD2 (R : Rm C) (G : Good C σ ls s) {l : Addr} {k : Int} {xs : List (Int × V)} {Q : Post} (ra : Real s.heap (C.D σ) a (.ref l)) (rb : Real s.heap (C.D σ) b (.int k)) (rc : Real s.heap (C.D σ) c d) (e : σ l = some (.dict false xs))
    (q : Q ((lookD k xs).getD d) (σ.upd l (.dict false (dropD k xs)))) : TrE C ls (call (.builtin "dict.pop") [a, b, c]) (RV C Q) σ s := by
  cases hx : lookD k xs with
  | some x => rw [hx] at q; exact g_popD G (.inr ⟨c, rfl⟩) ra rb e hx q
  | none =>
    rw [hx, dropD_none hx] at q
    cases ra
    cases rb with | int _ t =>
    obtain ⟨kvs, da, p, hz, hn⟩ := cellD G e
    have h2 : 2 < l := Nat.lt_of_lt_of_le R.ok.two (G.fresh l (.inl (not_some e)))
    have hv : valueAt kvs k = none := by
      rcases valueAt_of p.1 p.2 k with ⟨h1, _⟩ | ⟨v, x', _, h2, _⟩
      · exact h1
      · rw [h2] at hx; cases hx
    refine call_meetsIn F.slot_dict_pop da.mapOf.typeIs F.entry_dict_pop (F.args_dict_pop_3 _ _ _) (meets_dict_pop_default (intKind _ _) l (intKind_is _ _ k t) (sysMod h2) rfl c) ⟨kvs, da, hv, ?_⟩
    have eu : σ.upd l (.dict false xs) = σ := by
      funext b; unfold View.upd; split
      · rename_i q; rw [q, e]
      · rfl
    rw [eu] at q
    exact ⟨σ, G.toks _, Step.refl _ _ _, d, rc, q⟩
end
end Mine
end

section
open PySem PyProof.Rows
namespace Mine

/-! what an operation is in the model -/
noncomputable def binTok : Op → Option Operator
  | .add => some .Add
  | .sub => some .Sub
  | .mul => some .Mult
  | .div => some .FloorDiv
  | .mod => some .Mod
  | .pow => some .Pow
  | _ => none
noncomputable def cmpTok : Op → Option CmpOp
  | .eq => some .Eq
  | .ne => some .NotEq
  | .lt => some .Lt
  | .le => some .LtE
  | .gt => some .Gt
  | .ge => some .GtE
  | .isIn => some .In
  | .notIn => some .NotIn
  | .is => some .Is
  | .isNot => some .IsNot
  | _ => none
/-- built-in functions and types: the name, and the value it stands for -/
noncomputable def callTok : Op → Option (String × Value)
  | .len => some ("len", .builtin "len")
  | .all => some ("all", .builtin "all")
  | .max2 => some ("max", .builtin "max")
  | .maxL => some ("max", .builtin "max")
  | .min2 => some ("min", .builtin "min")
  | .minL => some ("min", .builtin "min")
  | .sorted => some ("sorted", .builtin "sorted")
  | .list => some ("list", .type "list")
  | .listM => some ("list", .type "list")
  | .tuple => some ("tuple", .type "tuple")
  | .dict => some ("dict", .type "dict")
  | .dictF => some ("dict", .type "dict")
  | .int => some ("int", .type "int")
  | .str => some ("str", .type "str")
  | _ => none
noncomputable def methTok : Op → Option (String × String × String)
  | .append => some ("append", "list", "list.append")
  | .extend => some ("extend", "list", "list.extend")
  | .popL => some ("pop", "list", "list.pop")
  | .clearL => some ("clear", "list", "list.clear")
  | .popD => some ("pop", "dict", "dict.pop")
  | .popD2 => some ("pop", "dict", "dict.pop")
  | .get => some ("get", "dict", "dict.get")
  | .clearD => some ("clear", "dict", "dict.clear")
  | .join => some ("join", "str", "str.join")
  | _ => none
noncomputable def types : List String := ["dict"]

/-- the tree; u, v: the expressions of a subscript -/
noncomputable def opT (u v : Expr) (o : Op) (vs : List Value) : Sem Value :=
  match binTok o, vs with
  | some t, [a, b] => binaryOp t a b
  | _, _ => match cmpTok o, vs with
    | some t, [a, b] => compareOp t a b
    | _, _ => match callTok o with
      | some (_, f) => call f vs
      | none => match methTok o with
        | some (_, _, id) => call (.builtin id) vs
        | none => match o, vs with
          | .neg, [a] => unaryOp .USub a
          | .isinst t, [a] => call (.builtin "isinstance") [a, .type t]
          | .item, [a, b] => subscriptTail u v a b
          | .slice true true, [a, l, h] => newFields "slice" [l, h, .none] >>= fun i => subscriptTail u v a i
          | .slice true false, [a, l] => newFields "slice" [l, .none, .none] >>= fun i => subscriptTail u v a i
          | .slice false true, [a, h] => newFields "slice" [.none, h, .none] >>= fun i => subscriptTail u v a i
          | .mkTup, vs => newTuple vs
          | .mkList, vs => newList vs
          | .mkListM, vs => newList vs
          | _, _ => unsupported "none"

section
variable {C : Cx} {ls : Ls} {σ : View} {s : Shared} {Q : Post}

theorem pure_of {o : Op} {xs : List V} (h : prim o xs Q σ) (ho : o ≠ .listM ∧ o ≠ .dict ∧ o ≠ .append ∧ o ≠ .extend ∧ o ≠ .popL ∧ o ≠ .popD ∧ o ≠ .popD2 ∧ o ≠ .clearL ∧ o ≠ .clearD ∧ o ≠ .mkListM) : ∃ d, pureOp o σ xs = some d ∧ Q d σ := by
  obtain ⟨h1, h2, h3, h4, h5, h6, h7, h8, h9, h10⟩ := ho
  cases o <;> first | exact h | exact absurd rfl h1 | exact absurd rfl h2 | exact absurd rfl h3 | exact absurd rfl h4 | exact absurd rfl h5 | exact absurd rfl h6 | exact absurd rfl h7 | exact absurd rfl h8 | exact absurd rfl h9 | exact absurd rfl h10

theorem Reals.one {h : Heap} {D : Addr → Prop} {vs : List Value} {x : V} (r : Reals h D vs [x]) : ∃ v, vs = [v] ∧ Real h D v x := by
  cases r with | cons r1 r2 => cases r2; exact ⟨_, rfl, r1⟩
theorem Reals.two {h : Heap} {D : Addr → Prop} {vs : List Value} {x y : V} (r : Reals h D vs [x, y]) : ∃ v w, vs = [v, w] ∧ Real h D v x ∧ Real h D w y := by
  cases r with | cons r1 r2 => obtain ⟨w, rfl, r3⟩ := r2.one; exact ⟨_, _, rfl, r1, r3⟩
theorem Reals.three {h : Heap} {D : Addr → Prop} {vs : List Value} {x y z : V} (r : Reals h D vs [x, y, z]) : ∃ v w u, vs = [v, w, u] ∧ Real h D v x ∧ Real h D w y ∧ Real h D u z := by
  cases r with | cons r1 r2 => obtain ⟨w, u, rfl, r3, r4⟩ := r2.two; exact ⟨_, _, _, rfl, r1, r3, r4⟩

theorem ord_two {f : Int → Int → Bool} {g : Str → Str → Bool} {xs : List V} {d : V} (h : ordV f g xs = some d) : ∃ x y, xs = [x, y] := by
  unfold ordV at h; split at h <;> first | exact ⟨_, _, rfl⟩ | cases h
theorem cmp_no_bin {o : Op} (h : (cmpTok o).isSome = true) : binTok o = none := by cases o <;> first | rfl | cases h
theorem call_no_bin {o : Op} (h : (callTok o).isSome = true) : binTok o = none := by cases o <;> first | rfl | cases h
theorem call_no_cmp {o : Op} (h : (callTok o).isSome = true) : cmpTok o = none := by cases o <;> first | rfl | cases h
theorem meth_no_bin {o : Op} (h : (methTok o).isSome = true) : binTok o = none := by cases o <;> first | rfl | cases h
theorem meth_no_cmp {o : Op} (h : (methTok o).isSome = true) : cmpTok o = none := by cases o <;> first | rfl | cases h
theorem meth_no_call {o : Op} (h : (methTok o).isSome = true) : callTok o = none := by cases o <;> first | rfl | cases h
theorem opT_bin {u v : Expr} {o : Op} {t : Operator} {a b : Value} (h : binTok o = some t) : opT u v o [a, b] = binaryOp t a b := by unfold opT; rw [h]
theorem opT_cmp {u v : Expr} {o : Op} {t : CmpOp} {a b : Value} (h : cmpTok o = some t) : opT u v o [a, b] = compareOp t a b := by unfold opT; rw [cmp_no_bin (by rw [h]; rfl), h]
theorem opT_call {u v : Expr} {o : Op} {n : String} {f : Value} {vs : List Value} (h : callTok o = some (n, f)) : opT u v o vs = call f vs := by unfold opT; rw [call_no_bin (by rw [h]; rfl), call_no_cmp (by rw [h]; rfl), h]
theorem opT_meth {u v : Expr} {o : Op} {n t id : String} {vs : List Value} (h : methTok o = some (n, t, id)) : opT u v o vs = call (.builtin id) vs := by unfold opT; rw [meth_no_bin (by rw [h]; rfl), meth_no_cmp (by rw [h]; rfl), meth_no_call (by rw [h]; rfl), h]
section
variable {h : Heap} {D : Addr → Prop} {vs : List Value} {xs : List V} {d : V} {p : List Value → Prop}
theorem use1 {f : V → Option V} (rs : Reals h D vs xs) (hd : on1 f xs = some d) (k : ∀ x a, f x = some d → Real h D a x → p [a]) : p vs := by
  obtain ⟨x, rfl, hd⟩ := on1_some hd; obtain ⟨a, rfl, ra⟩ := rs.one; exact k x a (by assumption) ra
theorem use2 {f : V → V → Option V} (rs : Reals h D vs xs) (hd : on2 f xs = some d) (k : ∀ x y a b, f x y = some d → Real h D a x → Real h D b y → p [a, b]) : p vs := by
  obtain ⟨x, y, rfl, hd⟩ := on2_some hd; obtain ⟨a, b, rfl, ra, rb⟩ := rs.two; exact k x y a b (by assumption) ra rb
theorem use3 {f : V → V → V → Option V} (rs : Reals h D vs xs) (hd : on3 f xs = some d) (k : ∀ x y z a b c, f x y z = some d → Real h D a x → Real h D b y → Real h D c z → p [a, b, c]) : p vs := by
  obtain ⟨x, y, z, rfl, hd⟩ := on3_some hd; obtain ⟨a, b, c, rfl, ra, rb, rc⟩ := rs.three; exact k x y z a b c (by assumption) ra rb rc
theorem useI2 {f : Int → Int → Option V} (rs : Reals h D vs xs) (hd : on2 (int2 f) xs = some d) (k : ∀ m n a b, f m n = some d → Real h D a (.int m) → Real h D b (.int n) → p [a, b]) : p vs :=
  use2 rs hd fun x y a b e ra rb => by
    obtain ⟨m, n, rfl, rfl, e⟩ := int2_some e; exact k m n a b e ra rb
theorem useM1 {α : Type} {g : V → Option α} {w : α → V} (rs : Reals h D vs xs) (hd : on1 (fun x => (g x).map w) xs = some d) (k : ∀ x a r, g x = some r → Real h D a x → d = w r → p [a]) : p vs :=
  use1 rs hd fun x a e ra => by
    obtain ⟨r, hr, e⟩ := Option.map_eq_some_iff.mp e; exact k x a r hr ra e.symm
theorem useM2 {α : Type} {g : V → V → Option α} {w : α → V} (rs : Reals h D vs xs) (hd : on2 (fun x y => (g x y).map w) xs = some d) (k : ∀ x y a b r, g x y = some r → Real h D a x → Real h D b y → d = w r → p [a, b]) : p vs :=
  use2 rs hd fun x y a b e ra rb => by
    obtain ⟨r, hr, e⟩ := Option.map_eq_some_iff.mp e; exact k x y a b r hr ra rb e.symm
theorem ite_some {c : Prop} [Decidable c] {a : V} (e : (if c then some a else none) = some d) : c ∧ d = a := by
  split at e
  · exact ⟨by assumption, (Option.some.inj e).symm⟩
  · cases e
end
theorem prim_sound (R : Rm C) (G : Good C σ ls s) (u v : Expr) {o : Op} {vs : List Value} {xs : List V} (rs : Reals s.heap (C.D σ) vs xs) (h : prim o xs Q σ) (ht : ∀ t, o = .isinst t → t ∈ types) : TrE C ls (opT u v o vs) (RV C Q) σ s := by
  by_cases hp : o ≠ .listM ∧ o ≠ .dict ∧ o ≠ .append ∧ o ≠ .extend ∧ o ≠ .popL ∧ o ≠ .popD ∧ o ≠ .popD2 ∧ o ≠ .clearL ∧ o ≠ .clearD ∧ o ≠ .mkListM
  · obtain ⟨d, hd, q⟩ := pure_of h hp
    refine Gives.then ?_ q
    clear q h hp
    cases o with
    | add => exact use2 (p := fun vs => Gives C ls (opT u v .add vs) d σ s) rs hd fun x y a b e ra rb => g_add G ra rb e
    | sub => exact useI2 (p := fun vs => Gives C ls (opT u v .sub vs) d σ s) rs hd fun m n a b e ra rb => by cases e; exact g_sub G ra rb
    | mul => exact use2 (p := fun vs => Gives C ls (opT u v .mul vs) d σ s) rs hd fun x y a b e ra rb => g_mul G ra rb e
    | div => exact useI2 (p := fun vs => Gives C ls (opT u v .div vs) d σ s) rs hd fun m n a b e ra rb => by obtain ⟨hh, rfl⟩ := ite_some e; exact g_div G ra rb hh.1 hh.2
    | mod => exact useI2 (p := fun vs => Gives C ls (opT u v .mod vs) d σ s) rs hd fun m n a b e ra rb => by obtain ⟨hh, rfl⟩ := ite_some e; exact g_mod G ra rb hh
    | pow => exact useI2 (p := fun vs => Gives C ls (opT u v .pow vs) d σ s) rs hd fun m n a b e ra rb => by obtain ⟨hh, rfl⟩ := ite_some e; exact g_pow G ra rb hh.1 hh.2.1 hh.2.2.1 hh.2.2.2
    | eq => exact useM2 (p := fun vs => Gives C ls (opT u v .eq vs) d σ s) rs hd fun x y a b r hr ra rb e => by subst e; exact (g_eqB R G ra rb hr).1
    | ne => exact useM2 (p := fun vs => Gives C ls (opT u v .ne vs) d σ s) rs hd fun x y a b r hr ra rb e => by subst e; exact (g_eqB R G ra rb hr).2
    | lt =>
      have hl : ∃ x y, xs = [x, y] := ord_two hd
      obtain ⟨x, y, rfl⟩ := hl
      obtain ⟨a, b, rfl, ra, rb⟩ := rs.two; exact g_lt G ra rb hd
    | isIn => exact useM2 (p := fun vs => Gives C ls (opT u v .isIn vs) d σ s) rs hd fun x y a b r hr ra rb e => by subst e; exact (g_inB R G ra rb hr).1
    | isNot => exact useM2 (p := fun vs => Gives C ls (opT u v .isNot vs) d σ s) rs hd fun x y a b r hr ra rb e => by subst e; exact g_isNot G ra rb hr
    | len => exact useM1 (p := fun vs => Gives C ls (opT u v .len vs) d σ s) rs hd fun x a r hr ra e => by subst e; exact g_len R G ra hr
    | isinst t => exact useM1 (p := fun vs => Gives C ls (opT u v (.isinst t) vs) d σ s) rs hd fun x a r hr ra e => by subst e; exact g_isinst G (ht _ rfl) ra hr
    | list => exact useM1 (p := fun vs => Gives C ls (opT u v .list vs) d σ s) rs hd fun x a r hr ra e => by subst e; exact g_list R G ra hr
    | dictF => exact useM1 (p := fun vs => Gives C ls (opT u v .dictF vs) d σ s) rs hd fun x a r hr ra e => by subst e; exact g_dictF R G ra hr
    | item => exact use2 (p := fun vs => Gives C ls (opT u v .item vs) d σ s) rs hd fun x y a b e ra rb => g_itemT R G ra rb e
    | slice lo hi =>
      cases lo <;> cases hi
      · cases hd
      · exact use2 (p := fun vs => Gives C ls (opT u v (.slice false true) vs) d σ s) rs hd fun x y a b e ra rb => by obtain ⟨k, rfl, e⟩ := int1_some e; cases rb; exact g_slice R G (lo := none) (hi := some _) ra .none (.int _ _) e
      · exact use2 (p := fun vs => Gives C ls (opT u v (.slice true false) vs) d σ s) rs hd fun x y a b e ra rb => by obtain ⟨k, rfl, e⟩ := int1_some e; cases rb; exact g_slice R G (lo := some _) (hi := none) ra (.int _ _) .none e
      · exact use3 (p := fun vs => Gives C ls (opT u v (.slice true true) vs) d σ s) rs hd fun x y z a b c e ra rb rc => by obtain ⟨k, k', rfl, rfl, e⟩ := int2_some e; cases rb; cases rc; exact g_slice R G (lo := some _) (hi := some _) ra (.int _ _) (.int _ _) e
    | mkTup => obtain ⟨hh, rfl⟩ := ite_some hd; exact g_mkTup G rs hh
    | mkList => obtain ⟨hh, rfl⟩ := ite_some hd; exact g_mkList G rs hh
    | _ => cases hd
  · have hp' : o = .listM ∨ o = .dict ∨ o = .append ∨ o = .extend ∨ o = .popL ∨ o = .popD ∨ o = .popD2 ∨ o = .clearL ∨ o = .clearD ∨ o = .mkListM := by
      by_cases a1 : o = .listM; · exact .inl a1
      by_cases a2 : o = .dict; · exact .inr (.inl a2)
      by_cases a3 : o = .append; · exact .inr (.inr (.inl a3))
      by_cases a4 : o = .extend; · exact .inr (.inr (.inr (.inl a4)))
      by_cases a5 : o = .popL; · exact .inr (.inr (.inr (.inr (.inl a5))))
      by_cases a6 : o = .popD; · exact .inr (.inr (.inr (.inr (.inr (.inl a6)))))
      by_cases a7 : o = .popD2; · exact .inr (.inr (.inr (.inr (.inr (.inr (.inl a7))))))
      by_cases a8 : o = .clearL; · exact .inr (.inr (.inr (.inr (.inr (.inr (.inr (.inl a8)))))))
      by_cases a9 : o = .clearD; · exact .inr (.inr (.inr (.inr (.inr (.inr (.inr (.inr (.inl a9))))))))
      by_cases a10 : o = .mkListM; · exact .inr (.inr (.inr (.inr (.inr (.inr (.inr (.inr (.inr a10))))))))
      exact absurd ⟨a1, a2, a3, a4, a5, a6, a7, a8, a9, a10⟩ hp
    rcases hp' with rfl | rfl | rfl | rfl | rfl | rfl | rfl | rfl | rfl | rfl
    · have h : ∃ d, pureOp .listM σ xs = some d ∧ Q d σ := h
      obtain ⟨d, hd, _⟩ := h; cases hd
    · simp only [prim] at h
      split at h
      · obtain ⟨a, rfl, ra⟩ := rs.one; obtain ⟨ys, hy, q⟩ := h; exact g_dict R G ra hy q
      · exact h.elim
    · simp only [prim] at h
      split at h
      · obtain ⟨a, b, rfl, ra, rb⟩ := rs.two; obtain ⟨ys, hy, hl, q⟩ := h; exact g_append G ra rb hy hl q
      · exact h.elim
    · have h : ∃ d, pureOp .extend σ xs = some d ∧ Q d σ := h
      obtain ⟨d, hd, _⟩ := h; cases hd
    · have h : ∃ d, pureOp .popL σ xs = some d ∧ Q d σ := h
      obtain ⟨d, hd, _⟩ := h; cases hd
    · simp only [prim] at h
      split at h
      · obtain ⟨a, b, rfl, ra, rb⟩ := rs.two; obtain ⟨ys, y, hy, hl, q⟩ := h; exact g_popD G (.inl rfl) ra rb hy hl q
      · exact h.elim
    · simp only [prim] at h
      split at h
      · obtain ⟨a, b, c, rfl, ra, rb, rc⟩ := rs.three; obtain ⟨ys, hy, q⟩ := h; exact g_popD2 R G ra rb rc hy q
      · exact h.elim
    · have h : ∃ d, pureOp .clearL σ xs = some d ∧ Q d σ := h
      obtain ⟨d, hd, _⟩ := h; cases hd
    · have h : ∃ d, pureOp .clearD σ xs = some d ∧ Q d σ := h
      obtain ⟨d, hd, _⟩ := h; cases hd
    · simp only [prim] at h
      exact g_mkListM G rs h.1 h.2
end
end Mine
end

section
open PySem PyProof.Rows
namespace Mine

structure Sc where
  names : List (Str × NameKind)
  vars : List Str
/-- the block's tables -/
structure Sc.Of (S : Sc) (C : Cx) : Prop where
  names : C.env.scope.names = S.names
  vars : C.vars = S.vars

noncomputable def glob (S : Sc) (x : Str) : Bool := S.names.lookup x == some .globalImplicit && !(x == ("__debug__" : Str))
noncomputable def noStar : List Expr → Bool
  | [] => true
  | .Starred _ _ :: _ => false
  | _ :: r => noStar r
noncomputable def notSet : Expr → Bool
  | .Set _ _ _ => false
  | _ => true
theorem notSet_marks {op : CmpOp} {r : Expr} (h : notSet r = true) : behindInMarks op r = false := by
  cases r <;> first | rfl | exact ff h
noncomputable def blts : List String := ["len", "all", "max", "min", "sorted", "list", "tuple", "dict", "int", "str", "bool", "isinstance", "range", "enumerate", "reversed"]
noncomputable def bval : String → Value
  | "list" => .type "list"
  | "tuple" => .type "tuple"
  | "dict" => .type "dict"
  | "int" => .type "int"
  | "str" => .type "str"
  | "bool" => .type "bool"
  | "range" => .type "range"
  | "enumerate" => .type "enumerate"
  | "reversed" => .type "reversed"
  | n => .builtin n
theorem boot_blts : ∀ n ∈ blts, bootBuiltins (Str.ofString n) = some (bval n) ∧ Str.ofString n ≠ ("__name__" : Str) := by decide +kernel
noncomputable def Blt (W : Wd) : Prop := ∀ n ∈ blts, W.mg (Str.ofString n) = none

noncomputable def instT : Op → Option String
  | .isinst t => some t
  | _ => none
theorem instT_inv {o : Op} {t : String} (h : instT o = some t) : o = .isinst t := by
  cases o <;> first | exact nn h | (cases Option.some.inj h; rfl)
noncomputable def instArgs (S : Sc) (f : Str) (t : String) : List Expr → Option (List Expr)
  | [x, .Name y _] => if f = Str.ofString "isinstance" ∧ glob S f = true ∧ y = Str.ofString t ∧ glob S y = true ∧ t ∈ types ∧ noStar [x] = true then some [x] else none
  | _ => none
theorem ite_some' {α : Type} {c : Prop} [Decidable c] {a d : α} (e : (if c then some a else none) = some d) : c ∧ d = a := by
  split at e
  · exact ⟨by assumption, (Option.some.inj e).symm⟩
  · cases e
theorem instArgs_inv {S : Sc} {f : Str} {t : String} {args es : List Expr} (h : instArgs S f t args = some es) : ∃ x y py, args = [x, .Name y py] ∧ es = [x] ∧ f = Str.ofString "isinstance" ∧ glob S f = true ∧ y = Str.ofString t ∧ glob S y = true ∧ t ∈ types ∧ noStar [x] = true := by
  match args, h with
  | [], h => exact nn h
  | [x], h => exact nn h
  | [x, y], h =>
    cases y <;> first
      | exact nn h
      | (obtain ⟨h1, h2⟩ := ite_some' h; exact ⟨_, _, _, rfl, h2, h1⟩)
  | x :: y :: z :: r, h => exact absurd h (by unfold instArgs; cases y <;> exact fun h => nn h)
noncomputable def shp (S : Sc) (o : Op) (e : Expr) : Option (List Expr) :=
  match e with
  | .BinOp l t r _ => if binTok o = some t then some [l, r] else none
  | .UnaryOp .USub x _ => if o = .neg then some [x] else none
  | .Compare l [t] [r] _ => if cmpTok o = some t ∧ notSet r = true then some [l, r] else none
  | .Call (.Name f _) args [] _ =>
    match callTok o with
    | some (n, _) => if f = Str.ofString n ∧ glob S f = true ∧ noStar args = true ∧ args.isEmpty = false then some args else none
    | none => match instT o with
      | some t => instArgs S f t args
      | none => none
  | .Subscript value slice _ => match slice with
    | .Slice (some l) (some h) none _ => if o = .slice true true then some [value, l, h] else none
    | .Slice (some l) none none _ => if o = .slice true false then some [value, l] else none
    | .Slice none (some h) none _ => if o = .slice false true then some [value, h] else none
    | .Slice _ _ _ _ => none
    | slice => if o = .item then some [value, slice] else none
  | .Tuple elts _ _ => if o = .mkTup ∧ noStar elts = true then some elts else none
  | .List elts _ => if (o = .mkList ∨ o = .mkListM) ∧ noStar elts = true then some elts else none
  | _ => none

/-- the shapes -/
inductive ShpI (S : Sc) (o : Op) : Expr → List Expr → Prop
  | bin (l : Expr) (t : Operator) (r : Expr) (p : Pos) (h : binTok o = some t) : ShpI S o (.BinOp l t r p) [l, r]
  | neg (x : Expr) (p : Pos) (h : o = .neg) : ShpI S o (.UnaryOp .USub x p) [x]
  | cmp (l : Expr) (t : CmpOp) (r : Expr) (p : Pos) (h : cmpTok o = some t) (hs : notSet r = true) : ShpI S o (.Compare l [t] [r] p) [l, r]
  | inst (f : Str) (p : Pos) (t : String) (x : Expr) (y : Str) (py pos : Pos) (ho : o = .isinst t) (h : f = Str.ofString "isinstance" ∧ glob S f = true ∧ y = Str.ofString t ∧ glob S y = true ∧ t ∈ types ∧ noStar [x] = true) : ShpI S o (.Call (.Name f p) [x, .Name y py] [] pos) [x]
  | call (f : Str) (p : Pos) (args : List Expr) (pos : Pos) (n : String) (v : Value) (hc : callTok o = some (n, v)) (h : f = Str.ofString n ∧ glob S f = true ∧ noStar args = true ∧ args.isEmpty = false) : ShpI S o (.Call (.Name f p) args [] pos) args
  | sl11 (value l h : Expr) (p pos : Pos) (ho : o = .slice true true) : ShpI S o (.Subscript value (.Slice (some l) (some h) none p) pos) [value, l, h]
  | sl10 (value l : Expr) (p pos : Pos) (ho : o = .slice true false) : ShpI S o (.Subscript value (.Slice (some l) none none p) pos) [value, l]
  | sl01 (value h : Expr) (p pos : Pos) (ho : o = .slice false true) : ShpI S o (.Subscript value (.Slice none (some h) none p) pos) [value, h]
  | item (value slice : Expr) (pos : Pos) (ho : o = .item) : ShpI S o (.Subscript value slice pos) [value, slice]
  | tup (elts : List Expr) (k : Nat) (pos : Pos) (ho : o = .mkTup) (hs : noStar elts = true) : ShpI S o (.Tuple elts k pos) elts
  | lst (elts : List Expr) (pos : Pos) (ho : o = .mkList ∨ o = .mkListM) (hs : noStar elts = true) : ShpI S o (.List elts pos) elts
theorem shp_inv {S : Sc} {o : Op} {e : Expr} {es : List Expr} (h : shp S o e = some es) : ShpI S o e es := by
  have no : ∀ {P : Prop}, (none : Option (List Expr)) = some es → P := fun h => nomatch h
  cases e with
  | BinOp l t r p => obtain ⟨h1, rfl⟩ := ite_some' (show (if binTok o = some t then some [l, r] else none) = some es from h); exact .bin l t r p h1
  | UnaryOp u x p =>
    cases u with
    | USub => obtain ⟨h1, rfl⟩ := ite_some' (show (if o = .neg then some [x] else none) = some es from h); exact .neg x p h1
    | _ => exact no h
  | Compare l ts rs p =>
    cases ts with
    | nil => exact no h
    | cons t ts =>
      cases ts with
      | cons _ _ => exact no h
      | nil =>
        cases rs with
        | nil => exact no h
        | cons r rs =>
          cases rs with
          | cons _ _ => exact no h
          | nil => obtain ⟨h1, rfl⟩ := ite_some' (show (if cmpTok o = some t ∧ notSet r = true then some [l, r] else none) = some es from h); exact .cmp l t r p h1.1 h1.2
  | Call f args kw pos =>
    cases f with
    | Name f p =>
      cases kw with
      | cons _ _ => exact no h
      | nil =>
        have h : (match callTok o with
            | some (n, _) => if f = Str.ofString n ∧ glob S f = true ∧ noStar args = true ∧ args.isEmpty = false then some args else none
            | none => match instT o with
              | some t => instArgs S f t args
              | none => none) = some es := h
        cases hc : callTok o with
        | some nv =>
          rw [hc] at h
          obtain ⟨h1, rfl⟩ := ite_some' h
          exact .call f p es pos nv.1 nv.2 hc h1
        | none =>
          rw [hc] at h
          cases hi : instT o with
          | none => rw [hi] at h; exact no h
          | some t =>
            rw [hi] at h
            obtain ⟨x, y, py, rfl, rfl, h2⟩ := instArgs_inv h
            exact .inst f p t x y py pos (instT_inv hi) h2
    | _ => exact no h
  | Subscript value slice pos =>
    cases slice with
    | Slice a b c p =>
      cases a <;> cases b <;> cases c <;> first
        | exact no h
        | (obtain ⟨h1, rfl⟩ := ite_some' h; first | exact .sl11 _ _ _ _ _ h1 | exact .sl10 _ _ _ _ h1 | exact .sl01 _ _ _ _ h1)
    | _ => obtain ⟨h1, rfl⟩ := ite_some' h; exact .item _ _ _ h1
  | Tuple elts k pos => obtain ⟨h1, rfl⟩ := ite_some' h; exact .tup _ _ _ h1.1 h1.2
  | List elts pos => obtain ⟨h1, rfl⟩ := ite_some' h; exact .lst _ _ h1.1 h1.2
  | _ => exact no h

/-- expressions one after the other -/
noncomputable def Ev (C : Cx) (ls : Ls) : List Expr → (List Value → View → Shared → Prop) → View → Shared → Prop
  | [], K => fun σ s => K [] σ s
  | e :: es, K => fun σ s => TrE C ls (eval e C.env) (fun v σ' s' => Ev C ls es (fun vs => K (v :: vs)) σ' s') σ s

section
variable {C : Cx} {ls : Ls} {σ : View} {s : Shared} {S : Sc}

theorem starEach_cons {env : Env} {e : Expr} {r : List Expr} (h : noStar (e :: r) = true) : starEach (e :: r) env = (false, eval e env) :: starEach r env ∧ noStar r = true := by
  cases e <;> first | exact ⟨rfl, h⟩ | exact ff h
theorem starEach_noStar {env : Env} {es : List Expr} (h : noStar es = true) : starEach es env = es.map fun e => (false, eval e env) := by
  induction es with
  | nil => rfl
  | cons e r ih => obtain ⟨h1, h2⟩ := starEach_cons (env := env) h; rw [h1, ih h2, List.map_cons]
theorem backTo_noStar {pos : Pos} {env : Env} (es : List Expr) : backTo pos (es.map fun e => (false, eval e env)) = es.map fun e => (false, eval e env) := by
  unfold backTo; simp

theorem spliced_ev : ∀ {es : List Expr} {K : List Value → View → Shared → Prop} {σ : View} {s : Shared}, Good C σ ls s → Ev C ls es K σ s → TrE C ls (spliced (es.map fun e => (false, eval e C.env))) K σ s
  | [], K, σ, s, G, h => by rw [List.map_nil, spliced]; exact TrE.pure G h
  | e :: es, K, σ, s, G, h => by
    rw [List.map_cons]
    refine PySem.Calls.spliced_cons (wpAny_mono h (fun v s₁ ⟨σ₁, G₁, S₁, h₁⟩ => ?_) fun _ _ x => x)
    exact wpAny_mono (spliced_ev G₁ h₁) (fun vs s₂ ⟨σ₂, G₂, S₂, h₂⟩ => ⟨σ₂, G₂, S₁.trans S₂, h₂⟩) fun _ _ x => x

theorem kindOf_eq (h : S.Of C) (x : Str) : C.env.kindOf x = S.names.lookup x := by unfold Env.kindOf; rw [h.names]
theorem load_global {x : Str} {pos : Pos} {v : Value} {Q : Value → Shared → Prop} (hS : S.Of C) (hg : glob S x = true) (G : Good C σ ls s) (W : C.W.Ok) (hv : C.W.mg x = some v) (h : Q v s) :
    wpAny (model C.W.prog C.W.w) C.A (eval (.Name x pos) C.env) Q (fun _ _ => False) s := by
  unfold glob at hg
  simp only [Bool.and_eq_true, beq_iff_eq, Bool.not_eq_true'] at hg
  refine PySem.Calls.Name_function_global G.fr.kind (by rw [kindOf_eq hS]; exact hg.1) ?_ hg.2
  exact PySem.Calls.loadGlobal_global (mg := C.W.mg) (by rw [G.fr.glob]; exact W.top.g.keeps G.stays) hv h
theorem load_blt {n : String} {pos : Pos} {Q : Value → Shared → Prop} (hS : S.Of C) (hg : glob S (Str.ofString n) = true) (hn : n ∈ blts) (G : Good C σ ls s) (W : C.W.Ok) (B : Blt C.W) (h : Q (bval n) s) :
    wpAny (model C.W.prog C.W.w) C.A (eval (.Name (Str.ofString n) pos) C.env) Q (fun _ _ => False) s := by
  unfold glob at hg
  simp only [Bool.and_eq_true, beq_iff_eq, Bool.not_eq_true'] at hg
  refine PySem.Calls.Name_function_global G.fr.kind (by rw [kindOf_eq hS]; exact hg.1) ?_ hg.2
  obtain ⟨h1, h2⟩ := boot_blts n hn
  exact PySem.Calls.loadGlobal_builtin (mg := C.W.mg) (mb := C.W.mb) (by rw [G.fr.glob]; exact W.top.g.keeps G.stays) (B n hn) (by rw [G.fr.blt]; exact W.top.b.keeps G.stays) (by rw [W.top.builtins _ h2]; exact h1) h

theorem callTok_val {o : Op} {n : String} {f : Value} (h : callTok o = some (n, f)) : n ∈ blts ∧ bval n = f := by
  cases o <;> first
    | exact nn h
    | (obtain ⟨h1, h2⟩ := Prod.mk.inj (Option.some.inj h); subst h1; subst h2; exact ⟨by decide, rfl⟩)
theorem callTok_kind {o : Op} {n : String} {f : Value} (h : callTok o = some (n, f)) : (∃ id, f = .builtin id) ∨ ∃ T, f = .type T := by
  cases o <;> first
    | exact nn h
    | (obtain ⟨h1, h2⟩ := Prod.mk.inj (Option.some.inj h); subst h2; first | exact .inl ⟨_, rfl⟩ | exact .inr ⟨_, rfl⟩)
theorem callWith_args {pos : Pos} {f : Value} {args : List Expr} {Q : Value → View → Shared → Prop} (hk : (∃ id, f = .builtin id) ∨ ∃ T, f = .type T) (hn : args.isEmpty = false) (G : Good C σ ls s)
    (h : Ev C ls args (fun vs σ' s' => TrE C ls (call f vs) Q σ' s') σ s) : TrE C ls (callWith pos f [] (args.map fun e => (false, eval e C.env)) []) Q σ s := by
  have hs := spliced_ev G h
  have hsp : wpAny (model C.W.prog C.W.w) C.A (spliced (args.map fun e => (false, eval e C.env))) (fun vs s₁ => wpAny (model C.W.prog C.W.w) C.A (call f ([] ++ vs)) (fun a s' => ∃ σ', Good C σ' ls s' ∧ Step C.own s.heap σ s'.heap σ' ∧ Q a σ' s') (fun _ _ => False) s₁) (fun _ _ => False) s :=
    wpAny_mono hs (fun vs s₁ ⟨σ₁, G₁, S₁, h₁⟩ => wpAny_mono h₁ (fun v s₂ ⟨σ₂, G₂, S₂, q⟩ => ⟨σ₂, G₂, S₁.trans S₂, q⟩) fun _ _ x => x) fun _ _ x => x
  have hp : (args.map fun e => ((false : Bool), eval e C.env)).any (·.1) = false := by simp
  cases args with
  | nil => cases hn
  | cons e es =>
    have hev : wpAny (model C.W.prog C.W.w) C.A (evalArgs f true ((e :: es).map fun e => ((false : Bool), eval e C.env)) []) (fun a s₁ => wpAny (model C.W.prog C.W.w) C.A (call f ([] ++ a.pos) a.kw) (fun a s' => ∃ σ', Good C σ' ls s' ∧ Step C.own s.heap σ s'.heap σ' ∧ Q a σ' s') (fun _ _ => False) s₁) (fun _ _ => False) s :=
      PySem.Calls.evalArgs_plain hsp
    rcases hk with ⟨id, rfl⟩ | ⟨T, rfl⟩
    · exact PySem.Calls.callWith_builtin hp hev
    · exact PyProof.Rows.callWith_type hp hev
end
end Mine
end

section
open PySem PyProof.Rows
namespace Mine
section
variable {C : Cx} {ls : Ls} {σ : View} {s : Shared} {S : Sc}

theorem Ev.mono : ∀ {es : List Expr} {K K' : List Value → View → Shared → Prop} {σ : View} {s : Shared}, Ev C ls es K σ s → (∀ vs σ' s', K vs σ' s' → K' vs σ' s') → Ev C ls es K' σ s
  | [], _, _, _, _, h, k => k _ _ _ h
  | _ :: _, _, _, _, _, h, k => TrE.mono h fun _ _ _ _ _ h' => Ev.mono h' fun _ _ _ h'' => k _ _ _ h''
theorem tr_call {f : Str} {p pos : Pos} {args : List Expr} {v : Value} {Q : Value → View → Shared → Prop} (hst : noStar args = true)
    (hf : ∀ Q' : Value → Shared → Prop, Q' v s → wpAny (model C.W.prog C.W.w) C.A (eval (.Name f p) C.env) Q' (fun _ _ => False) s)
    (h : TrE C ls (callWith pos v [] (args.map fun e => (false, eval e C.env)) []) Q σ s) : TrE C ls (eval (.Call (.Name f p) args [] pos) C.env) Q σ s := by
  have e : eval (.Call (.Name f p) args [] pos) C.env = (do callWith pos (← eval (.Name f p) C.env) [] (backTo pos (starEach args C.env)) (backToKw pos (keywordEach [] C.env))) := rfl
  unfold TrE
  rw [e, starEach_noStar hst, backTo_noStar]
  exact wpAny_bind (hf _ h)

theorem unnew {M : Model} {A : Around} {α : Type} {x y : Value} {f : Value → Sem α} {Q : α → Shared → Prop} {E : Value → Shared → Prop} {s : Shared} (h : wpAny M A (newFields "slice" [x, y, .none] >>= f) Q E s) :
    wpAny M A (f (.ref s.heap.objs.size)) Q E { s with heap := s.heap.push { cls := .type "slice", dict := none, data := .fields #[x, y, .none] } } := fun Γ p hΓ => by
  have h1 := h Γ p hΓ
  rw [Sem.wp_bind'] at h1
  exact h1
theorem inst_noStar {x : Expr} {y : Str} {py : Pos} (h : noStar [x] = true) : noStar [x, .Name y py] = true := by
  cases x <;> first | rfl | exact ff h
theorem types_blts {t : String} (h : t ∈ types) : t ∈ blts := by
  simp only [types, List.mem_cons, List.not_mem_nil, or_false] at h
  rcases h with rfl <;> decide
theorem types_bval {t : String} (h : t ∈ types) : bval t = .type t := by
  simp only [types, List.mem_cons, List.not_mem_nil, or_false] at h
  rcases h with rfl <;> rfl
theorem shp_sound (R : Rm C) (B : Blt C.W) (hS : S.Of C) {o : Op} {e : Expr} {es : List Expr} {Q : Value → View → Shared → Prop} (h : shp S o e = some es) (G : Good C σ ls s)
    (hv : Ev C ls es (fun vs σ' s' => ∀ u v, TrE C ls (opT u v o vs) Q σ' s') σ s) : TrE C ls (eval e C.env) Q σ s := by
  cases shp_inv h with
  | bin l t r pos ht =>
    rw [eval_BinOp]
    refine TrE.bind (TrE.mono hv fun a σ₁ s₁ G₁ _ h₁ => TrE.bind (TrE.holding (TrE.mono h₁ fun b σ₂ s₂ G₂ _ h₂ => TrE.bind (TrE.standAt G₂ (TrE.operate ?_)))))
    have := h₂ default default
    rw [opT_bin ht] at this
    exact this
  | neg x pos ht =>
    subst ht
    have e : eval (.UnaryOp .USub x pos) C.env = (do let v ← eval x C.env; standAt pos; holding [v] (unaryOp .USub v)) := rfl
    rw [e]
    exact TrE.bind (TrE.mono hv fun a σ₁ s₁ G₁ _ h₁ => TrE.bind (TrE.standAt G₁ (TrE.holding (h₁ default default))))
  | cmp l t r pos ht hs =>
    rw [eval_Compare1, markedBehindIn_of_false (notSet_marks hs)]
    refine TrE.bind (TrE.mono hv fun a σ₁ s₁ G₁ _ h₁ => TrE.bind (TrE.holding (TrE.mono h₁ fun b σ₂ s₂ G₂ _ h₂ => TrE.bind (TrE.standAt G₂ (TrE.operate ?_)))))
    have := h₂ default default
    rw [opT_cmp ht] at this
    exact this
  | inst f p t x y py pos ho hc =>
    obtain ⟨rfl, hg, rfl, hgy, ht, hst⟩ := hc
    subst ho
    refine tr_call (v := .builtin "isinstance") (by obtain ⟨h1, h2⟩ := starEach_cons (env := C.env) hst; exact inst_noStar hst) (fun Q' hq => load_blt hS hg (by decide) G R.ok B hq) ?_
    refine callWith_args (.inl ⟨_, rfl⟩) rfl G ?_
    refine TrE.mono hv fun a σ₁ s₁ G₁ _ h₁ => ?_
    have h₁' := h₁ default default
    refine load_blt hS hgy (types_blts ht) G₁ R.ok B ⟨σ₁, G₁, Step.refl _ _ _, ?_⟩
    rw [types_bval ht]
    exact h₁'
  | call f p args pos n v hct hc =>
    obtain ⟨rfl, hg, hst, hne⟩ := hc
    obtain ⟨hn, hbv⟩ := callTok_val hct
    refine tr_call (v := v) hst (fun Q' hq => load_blt hS hg hn G R.ok B (by rw [hbv]; exact hq)) ?_
    refine callWith_args (callTok_kind hct) hne G ?_
    exact Ev.mono hv fun vs σ' s' h' => by rw [← opT_call (u := default) (v := default) hct]; exact h' _ _
  | sl11 value l hh p pos ho =>
    subst ho
    refine Subscript_ (wpAny_mono hv (fun a s₁ ⟨σ₁, _, S₁, h₁⟩ => wpAny_Slice (wpAny_mono h₁ (fun x s₂ ⟨σ₂, _, S₂, h₂⟩ => wpAny_mono h₂ (fun y s₃ ⟨σ₃, _, S₃, h₃⟩ => ?_) fun _ _ x => x) fun _ _ x => x)) fun _ _ x => x)
    rw [evalPart_none]
    refine wpAny_pure (wpAny_mono (unnew (h₃ value (.Slice (some l) (some hh) none p))) (fun v s' ⟨σ', G', S', q⟩ => ⟨σ', G', ((S₁.trans S₂).trans S₃).trans S', q⟩) fun _ _ x => x)
  | sl10 value l p pos ho =>
    subst ho
    refine Subscript_ (wpAny_mono hv (fun a s₁ ⟨σ₁, _, S₁, h₁⟩ => wpAny_Slice (wpAny_mono h₁ (fun x s₂ ⟨σ₂, _, S₂, h₂⟩ => ?_) fun _ _ x => x)) fun _ _ x => x)
    rw [evalPart_none]
    refine wpAny_pure (wpAny_pure (wpAny_mono (unnew (h₂ value (.Slice (some l) none none p))) (fun v s' ⟨σ', G', S', q⟩ => ⟨σ', G', (S₁.trans S₂).trans S', q⟩) fun _ _ x => x))
  | sl01 value hh p pos ho =>
    subst ho
    refine Subscript_ (wpAny_mono hv (fun a s₁ ⟨σ₁, _, S₁, h₁⟩ => wpAny_Slice ?_) fun _ _ x => x)
    rw [evalPart_none]
    refine wpAny_pure (wpAny_mono h₁ (fun x s₂ ⟨σ₂, _, S₂, h₂⟩ => ?_) fun _ _ x => x)
    refine wpAny_pure (wpAny_mono (unnew (h₂ value (.Slice none (some hh) none p))) (fun v s' ⟨σ', G', S', q⟩ => ⟨σ', G', (S₁.trans S₂).trans S', q⟩) fun _ _ x => x)
  | item value slice pos ho =>
    subst ho
    refine Subscript_ (wpAny_mono hv (fun a s₁ ⟨σ₁, _, S₁, h₁⟩ => wpAny_mono h₁ (fun i s₂ ⟨σ₂, _, S₂, h₂⟩ => ?_) fun _ _ x => x) fun _ _ x => x)
    exact wpAny_mono (h₂ value slice) (fun v s' ⟨σ', G', S', q⟩ => ⟨σ', G', (S₁.trans S₂).trans S', q⟩) fun _ _ x => x
  | tup elts k pos ho hst =>
    subst ho
    have e : eval (.Tuple es k pos) C.env = (do standAt pos; newTuple (← spliced (backTo pos (starEach es C.env)))) := rfl
    rw [e, starEach_noStar hst, backTo_noStar]
    exact TrE.bind (TrE.standAt G (TrE.bind (TrE.mono (spliced_ev G hv) fun vs σ' s' _ _ h' => h' default default)))
  | lst elts pos ho hst =>
    have e : eval (.List es pos) C.env = (do standAt pos; newList (← spliced (backTo pos (starEach es C.env)))) := rfl
    rw [e, starEach_noStar hst, backTo_noStar]
    refine TrE.bind (TrE.standAt G (TrE.bind (TrE.mono (spliced_ev G hv) fun vs σ' s' _ _ h' => ?_)))
    have := h' default default
    rcases ho with rfl | rfl <;> exact this
end
end Mine
end

section
open PySem PyProof.Rows
namespace Mine

noncomputable def plainBase : Expr → Bool
  | .Call (.Name _ _) [] [] _ => false
  | _ => true
theorem attributeBase_plain {o : Expr} {attr : Str} {env : Env} {w : Sem Value} (h : plainBase o = true) : attributeBase o attr env w = w := by
  unfold attributeBase
  split
  · simp [plainBase] at h
  · rfl

/-- a method's call: the object, the arguments -/
noncomputable def mshp (o : Op) (e : Expr) : Option (Expr × List Expr) :=
  match e with
  | .Call (.Attribute b name apos) args [] pos => match methTok o with
    | some (n, _, _) => if name = Str.ofString n ∧ plainBase b = true ∧ noStar args = true ∧ args.length < 29 ∧ (apos.endLine == pos.line) = true then some (b, args) else none
    | none => none
  | _ => none

theorem mshp_inv {o : Op} {e b : Expr} {args : List Expr} (h : mshp o e = some (b, args)) : ∃ name apos pos n T id, e = .Call (.Attribute b name apos) args [] pos ∧ methTok o = some (n, T, id) ∧ name = Str.ofString n ∧ plainBase b = true ∧ noStar args = true ∧ args.length < 29 ∧ (apos.endLine == pos.line) = true := by
  have no : ∀ {P : Prop}, (none : Option (Expr × List Expr)) = some (b, args) → P := fun h => nomatch h
  cases e with
  | Call f args' kw pos =>
    cases f with
    | Attribute b' name apos =>
      cases kw with
      | cons _ _ => exact no h
      | nil =>
        have h : (match methTok o with
          | some (n, _, _) => if name = Str.ofString n ∧ plainBase b' = true ∧ noStar args' = true ∧ args'.length < 29 ∧ (apos.endLine == pos.line) = true then some (b', args') else none
          | none => none) = some (b, args) := h
        cases hm : methTok o with
        | none => rw [hm] at h; exact no h
        | some x =>
          rw [hm] at h
          obtain ⟨h1, h2⟩ := ite_some' h
          obtain ⟨rfl, rfl⟩ := Prod.mk.inj h2
          exact ⟨name, apos, pos, x.1, x.2.1, x.2.2, rfl, rfl, h1⟩
    | _ => exact no h
  | _ => exact no h
section
variable {C : Cx} {ls : Ls} {σ : View} {s : Shared}

theorem meth_type (R : Rm C) (G : Good C σ ls s) {o : Op} {v : Value} {x : V} (r : Real s.heap (C.D σ) v x) (h : methOk o x σ) :
    ∃ n T id, methTok o = some (n, T, id) ∧ PlainAttrs T ∧ Slot T (Str.ofString n) id ∧ typeOf (.builtin id) = pure (.type "method_descriptor") ∧ s.TypeIs v T ∧ ∀ a, v = .ref a → ∃ ob, s.heap.get? a = some ob ∧ ob.dict = none := by
  have lists : ∀ {l ro xs}, x = .ref l → σ l = some (.list ro xs) → s.TypeIs v "list" ∧ ∀ a, v = .ref a → ∃ ob, s.heap.get? a = some ob ∧ ob.dict = none := by
    rintro l ro xs rfl e
    cases r
    obtain ⟨vs, n, ho, _⟩ := G.sim l _ e
    exact ⟨⟨_, ho, rfl⟩, fun a ea => by cases ea; exact ⟨_, ho, rfl⟩⟩
  have dicts : ∀ {es}, dicOf σ x = some es → s.TypeIs v "dict" ∧ ∀ a, v = .ref a → ∃ ob, s.heap.get? a = some ob ∧ ob.dict = none := by
    intro es hd
    obtain ⟨a', ds, n, rfl, ho, _⟩ := dic_at R.ok G r hd
    exact ⟨⟨_, ho, rfl⟩, fun a ea => by cases ea; exact ⟨_, ho, rfl⟩⟩
  cases o <;> simp only [methOk] at h <;> first
    | exact h.elim
    | (obtain ⟨l, ro, xs, e1, e2⟩ := h
       obtain ⟨t1, t2⟩ := lists e1 e2
       first
         | exact ⟨_, _, _, rfl, F.plainAttrs_list, F.slot_list_append, F.type_list_append, t1, t2⟩
         | exact ⟨_, _, _, rfl, F.plainAttrs_list, F.slot_list_extend, F.type_list_extend, t1, t2⟩
         | exact ⟨_, _, _, rfl, F.plainAttrs_list, F.slot_list_pop, F.type_list_pop, t1, t2⟩
         | exact ⟨_, _, _, rfl, F.plainAttrs_list, F.slot_list_clear, F.type_list_clear, t1, t2⟩)
    | (obtain ⟨es, e1⟩ := h
       obtain ⟨t1, t2⟩ := dicts e1
       first
         | exact ⟨_, _, _, rfl, F.plainAttrs_dict, F.slot_dict_get, F.type_dict_get, t1, t2⟩
         | exact ⟨_, _, _, rfl, F.plainAttrs_dict, F.slot_dict_pop, F.type_dict_pop, t1, t2⟩
         | exact ⟨_, _, _, rfl, F.plainAttrs_dict, F.slot_dict_clear, F.type_dict_clear, t1, t2⟩)
    | (obtain ⟨z, rfl⟩ := h
       cases r
       exact ⟨_, _, _, rfl, F.plainAttrs_str, F.slot_str_join, F.type_str_join, typeIs_str _ _ _, fun _ e => nomatch e⟩)

theorem callWith_meth {pos : Pos} {id : String} {ov : Value} {args : List Expr} {Q : Value → View → Shared → Prop} (G : Good C σ ls s)
    (h : Ev C ls args (fun vs σ' s' => TrE C ls (call (.builtin id) (ov :: vs)) Q σ' s') σ s) : TrE C ls (callWith pos (.builtin id) [ov] (args.map fun e => (false, eval e C.env)) []) Q σ s := by
  have hp : (args.map fun e => ((false : Bool), eval e C.env)).any (·.1) = false := by simp
  cases args with
  | nil => exact PySem.Calls.callWith_builtin hp (PySem.evalArgs_none h)
  | cons e es =>
    have hs := spliced_ev G h
    have hsp : wpAny (model C.W.prog C.W.w) C.A (spliced ((e :: es).map fun e => (false, eval e C.env))) (fun vs s₁ => wpAny (model C.W.prog C.W.w) C.A (call (.builtin id) ([ov] ++ vs)) (fun a s' => ∃ σ', Good C σ' ls s' ∧ Step C.own s.heap σ s'.heap σ' ∧ Q a σ' s') (fun _ _ => False) s₁) (fun _ _ => False) s :=
      wpAny_mono hs (fun vs s₁ ⟨σ₁, G₁, S₁, h₁⟩ => wpAny_mono h₁ (fun v s₂ ⟨σ₂, G₂, S₂, q⟩ => ⟨σ₂, G₂, S₁.trans S₂, q⟩) fun _ _ x => x) fun _ _ x => x
    exact PySem.Calls.callWith_builtin hp (PySem.Calls.evalArgs_plain hsp)

theorem mshp_sound (R : Rm C) {o : Op} {e b : Expr} {args : List Expr} {Q : Value → View → Shared → Prop} (h : mshp o e = some (b, args))
    (hv : TrE C ls (eval b C.env) (fun ov σ₁ s₁ => ∃ x, Real s₁.heap (C.D σ₁) ov x ∧ methOk o x σ₁ ∧ Ev C ls args (fun vs σ₂ s₂ => ∀ u v, TrE C ls (opT u v o (ov :: vs)) Q σ₂ s₂) σ₁ s₁) σ s) : TrE C ls (eval e C.env) Q σ s := by
  obtain ⟨name, apos, pos, n, T, id, rfl, hm, rfl, hb, hst, hl, hline⟩ := mshp_inv h
  have htrees : backTo pos (starEach args C.env) = args.map fun e => (false, eval e C.env) := by rw [starEach_noStar hst, backTo_noStar]
  refine wpAny_Call_method_late (attributeBase_plain hb) ?_ hline htrees (wpAny_mono hv (fun ov s₁ ⟨σ₁, G₁, S₁, x, r, hok, hev⟩ => ?_) fun _ _ x => x)
  · rw [htrees]
    simp [backToKw, keywordEach]; omega
  · obtain ⟨n', T', id', hm', h1, h2, h3, h4, h5⟩ := meth_type R G₁ r hok
    rw [hm] at hm'; cases hm'
    refine ⟨T, id, h1, h2, h3, h4, h5, ?_⟩
    refine wpAny_mono (callWith_meth (pos := pos) (Q := Q) G₁ (Ev.mono hev fun vs σ' s' h' => by rw [← opT_meth (u := default) (v := default) hm]; exact h' _ _)) (fun v s₂ ⟨σ₂, G₂, S₂, q⟩ => ⟨σ₂, G₂, S₁.trans S₂, q⟩) fun _ _ x => x
end
end Mine
end

section
open PySem PyProof.Rows
namespace Mine

noncomputable def Cx.more (C : Cx) (wr : List Addr) : Cx := { C with B := fun a => C.B a ∨ a ∈ wr }
@[simp] theorem more_W (C : Cx) (wr : List Addr) : (C.more wr).W = C.W := rfl
@[simp] theorem more_A (C : Cx) (wr : List Addr) : (C.more wr).A = C.A := rfl
@[simp] theorem more_env (C : Cx) (wr : List Addr) : (C.more wr).env = C.env := rfl
@[simp] theorem more_own (C : Cx) (wr : List Addr) : (C.more wr).own = C.own := rfl
@[simp] theorem more_vars (C : Cx) (wr : List Addr) : (C.more wr).vars = C.vars := rfl

section
variable {C : Cx} {ls : Ls} {σ σ' : View} {s : Shared} {wr : List Addr}

theorem D_more (a : Addr) : (C.more wr).D σ a ↔ C.D σ a ∨ a ∈ wr := by
  unfold Cx.D Cx.more
  constructor
  · rintro (h | h | h | h)
    · exact .inl (.inl h)
    · exact .inl (.inr (.inl h))
    · exact .inl (.inr (.inr h))
    · exact .inr h
  · rintro ((h | h | h) | h)
    · exact .inl h
    · exact .inr (.inl h)
    · exact .inr (.inr (.inl h))
    · exact .inr (.inr (.inr h))
theorem Step.weaken {own own' : Addr → Prop} {h h' : Heap} (S : Step own h σ h' σ') (w : ∀ a, own a → own' a) : Step own' h σ h' σ' := ⟨fun b o e hr ho => S.keep b o e hr fun h => ho (w b h), S.size, S.grow, S.ro⟩

/-- objects are made that the frame may change from now on -/
theorem Good.enterL {h₂ : Heap} {tk : Nat} (G : Good C σ ls s) (k : ∀ b o, s.heap.get? b = some o → h₂.get? b = some o) (hz : s.heap.objs.size ≤ h₂.objs.size)
    (hw : ∀ a ∈ wr, s.heap.objs.size ≤ a ∧ ∃ o, h₂.get? a = some o) : Good (C.more wr) σ ls { s with heap := h₂, toks := tk } := by
  have L : Leaves s.heap (C.D σ) h₂ ((C.more wr).D σ) := fun b o e hd => by
    refine ⟨k b o e, fun h => ?_⟩
    rcases (D_more b).mp h with h | h
    · exact hd h
    · exact absurd (Heap.lt_size e) (Nat.not_lt.mpr (hw b h).1)
  have F := G.fr
  obtain ⟨m, hm⟩ := F.ns
  refine ⟨⟨fun b o e => k b o (G.stays b o e), G.same, fun a h => ?_, Nat.le_trans G.larger hz, fun a c e => (G.sim a c e).leaves L fun o e => k a o e, fun a h => ?_, fun a h hb => ?_, fun a h => ?_⟩,
    ⟨F.kind, F.glob, F.blt, ⟨m, hm.keeps k⟩, F.ownL, fun x c e => ?_, F.inj, fun i x d e1 e2 e3 => ?_, F.nodup, F.has⟩⟩
  · rcases (D_more a).mp h with h | h
    · exact G.fresh a h
    · exact Nat.le_trans G.larger (hw a h).1
  · rcases h with h | h | h
    · exact G.apart a (.inl h)
    · exact G.apart a (.inr h)
    · exact G.noView (hw a h).1
  · rcases hb with hb | hb
    · exact G.apart2 a h hb
    · exact absurd (G.toGround.lt (.inr (.inl h))) (Nat.not_lt.mpr (hw a hb).1)
  · rcases h with h | h | h
    · obtain ⟨o, e⟩ := G.old a (.inl h); exact ⟨o, k a o e⟩
    · obtain ⟨o, e⟩ := G.old a (.inr h); exact ⟨o, k a o e⟩
    · exact (hw a h).2
  · obtain ⟨h1, h2, v, hv⟩ := F.cells x c e
    exact ⟨h1.imp id .inl, h2, v, hv.keeps k⟩
  · obtain ⟨v, hv, hr⟩ := F.val i x d e1 e2 e3
    exact ⟨v, hv.keeps k, hr.leaves L⟩

theorem leaves_less (h : Heap) : Leaves h ((C.more wr).D σ) h (C.D σ) := fun b _ e hd => ⟨e, fun h => hd ((D_more b).mpr (.inl h))⟩
/-- and are let go -/
theorem Good.leaveL {ls' : Ls} {s₁ s₃ : Shared} {σ₁ : View} (G : Good C σ₁ ls s₁) (G' : Good (C.more wr) σ ls' s₃) : Good C σ ls' s₃ := by
  have L := leaves_less (C := C) (σ := σ) (wr := wr) s₃.heap
  have F := G'.fr
  refine ⟨⟨G'.stays, G'.same, fun a h => G'.fresh a ((D_more a).mpr (.inl h)), G'.larger, fun a c e => (G'.sim a c e).leaves L fun _ e => e, fun a h => G'.apart a (h.imp id .inl), fun a h hb => G'.apart2 a h (.inl hb), fun a h => G'.old a (h.imp id .inl)⟩,
    ⟨F.kind, F.glob, F.blt, F.ns, G.fr.ownL, fun x c e => ⟨(G.fr.cells x c e).1, (F.cells x c e).2⟩, F.inj, fun i x d e1 e2 e3 => ?_, F.nodup, F.has⟩⟩
  obtain ⟨v, hv, hr⟩ := F.val i x d e1 e2 e3
  exact ⟨v, hv, hr.leaves L⟩
theorem Step.leaveL {h₁ h₂ h₃ : Heap} (k : ∀ b o, h₁.get? b = some o → h₂.get? b = some o) (hz : h₁.objs.size ≤ h₂.objs.size) (hw : ∀ a ∈ wr, h₁.objs.size ≤ a) (S : Step (fun a => C.own a ∨ a ∈ wr) h₂ σ h₃ σ') : Step C.own h₁ σ h₃ σ' :=
  ⟨fun b o e hr ho => S.keep b o (k b o e) hr fun h => h.elim ho fun h => absurd (Heap.lt_size e) (Nat.not_lt.mpr (hw b h)), Nat.le_trans hz S.size, fun a h1 h2 => Nat.le_trans hz (S.grow a h1 h2),
    fun a c ha e hr => S.ro a c (Nat.lt_of_lt_of_le ha hz) e hr⟩

/-- while objects of the frame that hold no names change -/
theorem Good.quietW {h' : Heap} {tk : Nat} (G : Good C σ ls s) (hw : ∀ b ∈ wr, C.own b ∨ C.B b) (hl : C.env.locals ∉ wr) (hc : ∀ x c, C.env.cells.lookup x = some c → c ∉ wr) (hz : s.heap.objs.size ≤ h'.objs.size)
    (k : ∀ b o, b ∉ wr → s.heap.get? b = some o → h'.get? b = some o) (al : ∀ b ∈ wr, ∃ o, h'.get? b = some o) :
    Good C σ ls { s with heap := h', toks := tk } ∧ (∀ own : Addr → Prop, (∀ b ∈ wr, own b) → Step own s.heap σ h' σ) ∧ Leaves s.heap (C.D σ) h' (C.D σ) := by
  have S : ∀ own : Addr → Prop, (∀ b ∈ wr, own b) → Step own s.heap σ h' σ := fun own ho' => ⟨fun b o e _ ho => k b o (fun h => ho (ho' b h)) e, hz, fun _ h1 h2 => absurd h2 h1, fun _ _ _ e _ => .inl e⟩
  have L : Leaves s.heap (C.D σ) h' (C.D σ) := fun b o e hd => ⟨k b o (fun h => hd (.inr (hw b h))) e, hd⟩
  have F := G.fr
  obtain ⟨m, hm⟩ := F.ns
  refine ⟨⟨⟨fun b o e => ?_, G.same, G.fresh, Nat.le_trans G.larger hz, fun a c e => (G.sim a c e).leaves L fun o e' => ?_, G.apart, G.apart2, fun a h => ?_⟩,
    ⟨F.kind, F.glob, F.blt, ⟨m, hm.at' fun o e => k _ o hl e⟩, F.ownL, fun x c e => ?_, F.inj, fun i x d e1 e2 e3 => ?_, F.nodup, F.has⟩⟩, S, L⟩
  · have hd : ¬ C.D σ b := fun hd => absurd (Heap.lt_size e) (Nat.not_lt.mpr (G.fresh b hd))
    exact (L b o (G.stays b o e) hd).1
  · refine k a o (fun h => ?_) e'
    have := G.apart a (hw a h); rw [e] at this; cases this
  · by_cases q : a ∈ wr
    · exact al a q
    · obtain ⟨o, e⟩ := G.old a h; exact ⟨o, k a o q e⟩
  · obtain ⟨h1, h2, v, o, ho, hv⟩ := F.cells x c e
    exact ⟨h1, h2, v, o, k c o (hc x c e) ho, hv⟩
  · obtain ⟨v, hv, hr⟩ := F.val i x d e1 e2 e3
    refine ⟨v, hv.at fun b hb o e => ?_, hr.leaves L⟩
    rcases hb with rfl | ⟨y, hy⟩
    · exact k _ o hl e
    · exact k b o (hc y b hy) e

/-! an object is only read for a while -/
theorem Cell.lock_eq {c : Cell} (h : c.ro = true) : c.lock = c := by cases c <;> simp_all [Cell.lock, Cell.ro]
theorem Good.review {τ : View} (G : Good C σ ls s) (hd : ∀ a, τ a = none ↔ σ a = none) (hc : ∀ a c', τ a = some c' → ∃ c, σ a = some c ∧ ∀ D, CellAt C.W.w.params s.heap D a c → CellAt C.W.w.params s.heap D a c') : Good C τ ls s := by
  have e : C.D τ = C.D σ := by funext a; unfold Cx.D; rw [ne_eq, hd, ne_eq]
  have F := G.fr
  refine ⟨⟨G.stays, G.same, by rw [e]; exact G.fresh, G.larger, fun a c' h => ?_, fun a h => (hd a).mpr (G.apart a h), G.apart2, G.old⟩, ⟨F.kind, F.glob, F.blt, F.ns, F.ownL, F.cells, F.inj, by rw [e]; exact F.val, F.nodup, F.has⟩⟩
  obtain ⟨c, h1, h2⟩ := hc a c' h
  rw [e]; exact h2 _ (G.sim a c h1)

theorem lockV_cases (σ : View) (us : List V) : lockV σ us = σ ∨ ∃ a c, us = [.ref a] ∧ σ a = some c ∧ lockV σ us = σ.upd a c.lock := by
  unfold lockV
  split
  · split
    · rename_i c e; exact .inr ⟨_, c, rfl, e, rfl⟩
    · exact .inl rfl
  · exact .inl rfl
theorem Good.lock (G : Good C σ ls s) (us : List V) : Good C (lockV σ us) ls s := by
  rcases lockV_cases σ us with h | ⟨a, c, rfl, e, h⟩
  · rw [h]; exact G
  · rw [h]
    refine G.review (fun b => ?_) fun b c' hb => ?_
    · by_cases q : b = a
      · subst q; simp [e]
      · rw [upd_ne q]
    · by_cases q : b = a
      · subst q; rw [upd_self] at hb; cases hb; exact ⟨c, e, fun D h => CellAt.lock.mpr h⟩
      · rw [upd_ne q] at hb; exact ⟨c', hb, fun _ h => h⟩
theorem Step.lock (own : Addr → Prop) (h : Heap) (σ : View) (us : List V) : Step own h σ h (lockV σ us) := by
  rcases lockV_cases σ us with e | ⟨a, c, rfl, e, e'⟩
  · rw [e]; exact Step.refl _ _ _
  · rw [e']
    refine ⟨fun _ _ e _ _ => e, Nat.le_refl _, fun b h1 h2 => ?_, fun b c' _ eb hr => ?_⟩
    · by_cases q : b = a
      · subst q; rw [e] at h2; cases h2
      · rw [upd_ne q] at h1; exact absurd h2 h1
    · by_cases q : b = a
      · subst q; rw [e] at eb; cases eb; left; rw [upd_self, Cell.lock_eq hr]
      · left; rw [upd_ne q]; exact eb
theorem unlock {us : List V} {σ₁ σ₃ : View} {s₁ s₃ : Shared} {ls₃ : Ls} {own : Addr → Prop} (G₁ : ∀ a, σ₁ a ≠ none → a < s₁.heap.objs.size) (G₃ : Good C σ₃ ls₃ s₃) (S : Step own s₁.heap (lockV σ₁ us) s₃.heap σ₃) :
    Good C (unlockV σ₁ us σ₃) ls₃ s₃ ∧ Step own s₁.heap σ₁ s₃.heap (unlockV σ₁ us σ₃) := by
  have S₀ : Step own s₁.heap σ₁ s₃.heap σ₃ := (Step.lock _ _ _ _).trans S
  have main : ∀ {a : Addr} {c c' : Cell}, us = [.ref a] → σ₁ a = some c → σ₃ a = some c' → c.lock.ro = true → Good C (σ₃.upd a c) ls₃ s₃ ∧ Step own s₁.heap σ₁ s₃.heap (σ₃.upd a c) := by
    rintro a c c' rfl e1 e2 hr
    have hlt : a < s₁.heap.objs.size := G₁ a (not_some e1)
    have hl : lockV σ₁ [.ref a] a = some c.lock := by unfold lockV; simp [e1]
    have h3 : σ₃ a = some c.lock := by
      rcases S.ro a c.lock hlt hl hr with h | h
      · exact h
      · rw [h] at e2; cases e2
    refine ⟨G₃.review (fun b => ?_) fun b d hb => ?_, fun b o e hb ho => S₀.keep b o e hb ho, S₀.size, fun b h1 h2 => ?_, fun b d hb eb hd => ?_⟩
    · by_cases q : b = a
      · subst q; simp [h3]
      · rw [upd_ne q]
    · by_cases q : b = a
      · subst q; rw [upd_self] at hb; cases hb; exact ⟨_, h3, fun D h => CellAt.lock.mp h⟩
      · rw [upd_ne q] at hb; exact ⟨d, hb, fun _ h => h⟩
    · by_cases q : b = a
      · subst q; rw [e1] at h2; cases h2
      · rw [upd_ne q] at h1; exact S₀.grow b h1 h2
    · by_cases q : b = a
      · subst q; rw [e1] at eb; cases eb; left; simp
      · rw [upd_ne q]; exact S₀.ro b d hb eb hd
  unfold unlockV
  split
  · split
    · rename_i e1 e2; exact main rfl e1 e2 rfl
    · rename_i e1 e2; exact main rfl e1 e2 rfl
    · exact ⟨G₃, S₀⟩
  · exact ⟨G₃, S₀⟩
end
end Mine
end

section
open PySem PyProof.Rows
namespace Mine

/-- a pair's parts, as a target of two names takes them -/
noncomputable def RealP (h : Heap) (D : Addr → Prop) (v : Value) (x : V) : Prop := ∃ T v1 v2 p q, v = .ref T ∧ h.IsTuple T #[v1, v2] ∧ x = .tup [p, q] ∧ Real h D v1 p ∧ Real h D v2 q
/-- an iterator over data; `wr`: its own objects; `tgt`: the target that its items go to -/
structure It (C : Cx) (s₁ : Shared) (σ₀ : View) (tgt : Expr) (Rp : Heap → (Addr → Prop) → Value → V → Prop) (it : Addr) (wr : List Addr) (xs : List V) (fp : List Addr) (P : Nat → Nat → Heap → Value → Prop) (St : Nat → Heap → Prop) : Prop where
  frame : ∀ i h h', St i h → (∀ b ∈ fp, ∀ o, h.get? b = some o → h'.get? b = some o) → St i h'
  item : ∀ i (s : Shared) (Q : Value → Shared → Prop), i < xs.length → St i s.heap →
    (∀ v h' tk, P i s.heap.objs.size h' v → St (i + 1) h' → (∀ b o, b ∉ wr → s.heap.get? b = some o → h'.get? b = some o) → Q v { s with heap := h', toks := tk }) →
    wpAny (model C.W.prog C.W.w) C.A (pyNext (.ref it)) (fun r s₂ => ∃ v, r = some v ∧ wpAny (model C.W.prog C.W.w) C.A (letOwnedTupleGo tgt (.ref it) v) (fun _ s₃ => Q v s₃) (fun _ _ => False) s₂) (fun _ _ => False) s
  done : ∀ (s : Shared) (Q : Option Value → Shared → Prop) (E : Value → Shared → Prop), St xs.length s.heap →
    (∀ h' tk, (∀ b o, b ∉ wr → s.heap.get? b = some o → h'.get? b = some o) → Q none { s with heap := h', toks := tk }) → wpAny (model C.W.prog C.W.w) C.A (pyNext (.ref it)) Q E s
  self : ∀ i (s : Shared) (Q : Value → Shared → Prop) (E : Value → Shared → Prop), St i s.heap → Q (.ref it) s → wpAny (model C.W.prog C.W.w) C.A (pyIter (.ref it)) Q E s
  alive : ∀ i h, St i h → ∀ b ∈ wr, ∃ o, h.get? b = some o
  fps : ∀ b ∈ fp, b ∈ wr ∨ (b < s₁.heap.objs.size ∧ ¬ Rw σ₀ b ∧ ¬ C.own b)
  new : ∀ b ∈ wr, s₁.heap.objs.size ≤ b
  val : ∀ i v n₀ (h' : Heap) D', i < xs.length → Leaves s₁.heap (C.D σ₀) h' D' → (∀ a, D' a → a < n₀) → P i n₀ h' v → ∃ x, xs[i]? = some x ∧ Rp h' D' v x

section
variable {C : Cx} {ls : Ls} {σ σ' : View} {s : Shared} {wr : List Addr} {x : V} {v : Value}

/-- the iterator's last step, and its end -/
theorem Good.endL {ls' : Ls} {s₁ : Shared} {σ₁ : View} {h' : Heap} {tk : Nat} (G₁ : Good C σ₁ ls s₁) (G : Good (C.more wr) σ ls' s) (G₀ : ∀ b, C.own b ∨ C.B b → b ∉ wr) (hz : s.heap.objs.size ≤ h'.objs.size)
    (k : ∀ b o, b ∉ wr → s.heap.get? b = some o → h'.get? b = some o) : Good C σ ls' { s with heap := h', toks := tk } := by
  have L : Leaves s.heap ((C.more wr).D σ) h' (C.D σ) := fun b o e hd => ⟨k b o (fun h => hd ((D_more b).mpr (.inr h))) e, fun h => hd ((D_more b).mpr (.inl h))⟩
  have F := G.fr
  obtain ⟨m, hm⟩ := F.ns
  have kk : ∀ b, C.own b ∨ C.B b → ∀ o, s.heap.get? b = some o → h'.get? b = some o := fun b hb o e => k b o (G₀ b hb) e
  refine ⟨⟨fun b o e => ?_, G.same, fun a h => G.fresh a ((D_more a).mpr (.inl h)), Nat.le_trans G.larger hz, fun a c e => (G.sim a c e).leaves L fun o e' => ?_, fun a h => G.apart a (h.imp id .inl), fun a h hb => G.apart2 a h (.inl hb), fun a h => ?_⟩,
    ⟨F.kind, F.glob, F.blt, ⟨m, hm.at' fun o e => kk _ (.inl G₁.fr.ownL) o e⟩, G₁.fr.ownL, fun x c e => ?_, F.inj, fun i x d e1 e2 e3 => ?_, F.nodup, F.has⟩⟩
  · have hd : ¬ (C.more wr).D σ b := fun hd => absurd (Heap.lt_size e) (Nat.not_lt.mpr (G.fresh b hd))
    exact (L b o (G.stays b o e) hd).1
  · refine k a o (fun h => ?_) e'
    have := G.apart a (.inr (.inr h)); rw [e] at this; cases this
  · obtain ⟨o, e⟩ := G.old a (h.imp id .inl); exact ⟨o, kk a h o e⟩
  · obtain ⟨h1, h2, v, o, ho, hv⟩ := F.cells x c e
    exact ⟨(G₁.fr.cells x c e).1, h2, v, o, kk c (G₁.fr.cells x c e).1 o ho, hv⟩
  · obtain ⟨v, hv, hr⟩ := F.val i x d e1 e2 e3
    refine ⟨v, hv.at fun b hb o e => ?_, hr.leaves L⟩
    rcases hb with rfl | ⟨y, hy⟩
    · exact kk _ (.inl G₁.fr.ownL) o e
    · exact kk b (G₁.fr.cells y b hy).1 o e

theorem lockV_none {us : List V} {b : Addr} (h : σ b = none) : lockV σ us b = none := by
  rcases lockV_cases σ us with e | ⟨a, c, _, e, e'⟩
  · rw [e]; exact h
  · rw [e', upd_ne (by rintro rfl; rw [e] at h; cases h)]; exact h
theorem D_lock (us : List V) : C.D (lockV σ us) = C.D σ := by
  rcases lockV_cases σ us with e | ⟨a, c, _, e, e'⟩
  · rw [e]
  · rw [e']; exact D_upd e
/-- what is gone through is only read -/
theorem src_locked (G : Good C σ ls s) {a : Addr} (r : Real s.heap (C.D σ) (.ref a) x) (h : (∃ xs, seqOf σ x = some xs) ∨ ∃ es, dicOf σ x = some es) : ¬ Rw (lockV σ [x]) a ∧ ¬ C.own a := by
  have frozen : ¬ C.D σ a → ¬ Rw (lockV σ [x]) a ∧ ¬ C.own a := fun hd => by
    refine ⟨Rw.of_none (lockV_none ?_), fun h => hd (.inr (.inl h))⟩
    cases q : σ a with
    | none => rfl
    | some c => exact absurd (.inl (not_some q)) hd
  have locked : ∀ {c : Cell}, x = .ref a → σ a = some c → c.lock.ro = true → ¬ Rw (lockV σ [x]) a ∧ ¬ C.own a := by
    rintro c rfl e hr
    refine ⟨?_, fun h => by have := G.apart a (.inl h); rw [e] at this; cases this⟩
    unfold lockV
    simp only [e]
    exact Rw.of_ro (upd_self _ _ _) hr
  cases r with
  | tup ho hz hd rs => exact frozen hd
  | lst ho hz hd rs => exact frozen hd
  | dct ho hz hn h2 hd rs => exact frozen hd
  | raw => rcases h with ⟨_, h⟩ | ⟨_, h⟩ <;> simp [seqOf, lstOf, dicOf] at h
  | ref =>
    cases e : σ a with
    | none => rcases h with ⟨_, h⟩ | ⟨_, h⟩ <;> simp [seqOf, lstOf, dicOf, e] at h
    | some c =>
      cases c with
      | list ro xs => exact locked rfl e rfl
      | dict ro xs => exact locked rfl e rfl
      | inst => rcases h with ⟨_, h⟩ | ⟨_, h⟩ <;> simp [seqOf, lstOf, dicOf, e] at h
      | attrs => rcases h with ⟨_, h⟩ | ⟨_, h⟩ <;> simp [seqOf, lstOf, dicOf, e] at h

theorem It.of_walks {y : Str} {py : Pos} {s₁ : Shared} {σ₀ : View} {it : Addr} {xs : List V} {fp : List Addr} {P : Nat → Value → Prop} {St : Nat → Heap → Prop} (W : Walks C.W.prog C.W.w C.A it fp [it] xs.length P St)
    (alive : ∀ i h, St i h → ∃ o, h.get? it = some o) (fps : ∀ b ∈ fp, b = it ∨ (b < s₁.heap.objs.size ∧ ¬ Rw σ₀ b ∧ ¬ C.own b)) (new : s₁.heap.objs.size ≤ it)
    (val : ∀ i v (h' : Heap) D', i < xs.length → Leaves s₁.heap (C.D σ₀) h' D' → P i v → ∃ x, xs[i]? = some x ∧ Real h' D' v x) :
    It C s₁ σ₀ (.Name y py) Real it [it] xs fp (fun i _ _ v => P i v) St :=
  ⟨W.frame, fun i s Q hi st hQ => W.item i s _ _ hi st fun v h' tk p st' k => ⟨v, rfl, wpAny_pure (hQ v h' tk p st' k)⟩, W.done, W.self, fun i h st b hb => by simp at hb; subst hb; exact alive i h st, fun b hb => (fps b hb).imp (fun e => by simp [e]) id, fun b hb => by simp at hb; subst hb; exact new, fun i v _ h' D' hi L _ hv => val i v h' D' hi L hv⟩

theorem it_value {y : Str} {py : Pos} (R : Rm C) (G : Good C σ ls s) {xs : List V} {Q : Value → Shared → Prop} {E : Value → Shared → Prop} (r : Real s.heap (C.D σ) v x) (h : itemsOf σ x = some xs)
    (hQ : ∀ o fp P St, It C s (lockV σ [x]) (.Name y py) Real s.heap.objs.size [s.heap.objs.size] xs fp P St → St 0 (s.heap.push o) → Q (.ref s.heap.objs.size) { s with heap := s.heap.push o }) :
    wpAny (model C.W.prog C.W.w) C.A (pyIter v) Q E s := by
  rcases itemsOf_cases h with ⟨z, rfl, rfl⟩ | hs | ⟨es, hd, rfl⟩
  · cases r with | str _ t k z' =>
    have hl : (charsOf z).length = z.cps.size := by simp [charsOf]
    have val : ∀ i v (h' : Heap) D', i < (charsOf z).length → Leaves s.heap (C.D (lockV σ [.str z])) h' D' → SignAt z i v → ∃ x, (charsOf z)[i]? = some x ∧ Real h' D' v x := by
      intro i v h' D' _ _ hv
      obtain ⟨c, u, hc, rfl⟩ := hv
      refine ⟨.str ⟨#[c]⟩, ?_, .str _ _ (strOk_one k hc) (by simp)⟩
      simp [charsOf, hc]
    cases ha : z.cps.all (· < 128)
    · have W := Walks.strWide (prog := C.W.prog) (w := C.W.w) R.hh s.heap.objs.size z t
      rw [← hl] at W
      refine wpAny_pyIter_wide ha (hQ _ _ _ _ (It.of_walks W (fun i h st => let ⟨o, e, _⟩ := st; ⟨o, e⟩) (fun b hb => .inl (by simpa using hb)) (Nat.le_refl _) val) ⟨_, Heap.get?_push_size _ rfl, rfl, rfl⟩)
    · have W := Walks.strAscii (prog := C.W.prog) (w := C.W.w) R.hh s.heap.objs.size z t
      rw [← hl] at W
      refine wpAny_pyIter_ascii ha (hQ _ _ _ _ (It.of_walks W (fun i h st => let ⟨o, e, _⟩ := st; ⟨o, e⟩) (fun b hb => .inl (by simpa using hb)) (Nat.le_refl _) val) ⟨_, Heap.get?_push_size _ rfl, rfl, rfl⟩)
  · obtain ⟨a', vs, n, rfl, ho, hz, rs⟩ := seq_at G r hs
    have el : vs.size = xs.length := by rw [← rs.length]; simp
    have hlt : a' < s.heap.objs.size := by rcases ho with ho | ho <;> exact Heap.lt_size ho
    have fps : ∀ b ∈ [s.heap.objs.size, a'], b = s.heap.objs.size ∨ (b < s.heap.objs.size ∧ ¬ Rw (lockV σ [x]) b ∧ ¬ C.own b) := fun b hb => by
      simp at hb
      rcases hb with rfl | rfl
      · exact .inl rfl
      · exact .inr ⟨hlt, src_locked G r (.inl ⟨_, hs⟩)⟩
    have val : ∀ (i : Nat) v (h' : Heap) D', i < xs.length → Leaves s.heap (C.D (lockV σ [x])) h' D' → vs[i]? = some v → ∃ x, xs[i]? = some x ∧ Real h' D' v x := by
      intro i v h' D' _ L hv
      rw [D_lock] at L
      obtain ⟨y, h1, h2⟩ := rs.get' (i := i) (v := v) (by simpa using hv)
      exact ⟨y, h1, h2.leaves L⟩
    rcases ho with ho | ho
    · have W := Walks.list (prog := C.W.prog) (w := C.W.w) R.hh s.heap.objs.size a' (Nat.ne_of_lt hlt) vs
      rw [el] at W
      exact wpAny_pyIter_list (isList_of ho) (hQ _ _ _ _ (It.of_walks W (fun i h st => let ⟨o, e, _⟩ := st.1; ⟨o, e⟩) fps (Nat.le_refl _) val)
        ⟨⟨_, Heap.get?_push_size _ rfl, rfl, rfl⟩, (isList_of ho).push _⟩)
    · have W := Walks.tuple (prog := C.W.prog) (w := C.W.w) R.hh s.heap.objs.size a' (Nat.ne_of_lt hlt) vs
      rw [el] at W
      refine wpAny_pyIter_tuple (items := vs) (isTup_of ho) (hQ _ _ _ _ (It.of_walks W (fun i h st => let ⟨o, e, _⟩ := st.1; ⟨o, e⟩) fps (Nat.le_refl _) val) ?_)
      refine ⟨⟨_, Heap.get?_push_size _ rfl, rfl, rfl⟩, ?_⟩
      obtain ⟨o, h1, h2⟩ := isTup_of ho
      exact ⟨o, Heap.get?_push_of_some _ h1, h2⟩
  · obtain ⟨a', ds, n, rfl, ho, hz, hn, h2, rs⟩ := dic_at R.ok G r hd
    obtain ⟨kvs, h1, h2', h3, h4⟩ := RealD.pairs (prog := C.W.prog) (w := C.W.w) rs
    have at' : s.heap.DictAt (intKind C.W.prog C.W.w) a' kvs n := ⟨_, ds, ho, ⟨rfl, rfl, rfl⟩, rfl, fun e he => h4 e (Array.mem_toList_iff.mpr he), h1, by rw [h2']; exact hn⟩
    have el : kvs.length = es.length := by have := congrArg List.length h2'; simpa using this
    have hlt := Heap.lt_size ho
    have W := Walks.dictKeys (knd := intKind C.W.prog C.W.w) R.hh s.heap.objs.size a' (Nat.ne_of_lt hlt) kvs n
    rw [show kvs.length = (es.map fun p => V.int p.1).length by rw [el, List.length_map]] at W
    refine wpAny_pyIter_dict (sysMod h2) at' (hQ _ _ _ _ (It.of_walks W (fun i h st => let ⟨o, e, _⟩ := st.1; ⟨o, e⟩) (fun b hb => ?_) (Nat.le_refl _) fun i v h' D' _ _ hv => ?_) ?_)
    · simp at hb
      rcases hb with rfl | rfl
      · exact .inl rfl
      · exact .inr ⟨hlt, src_locked G r (.inr ⟨_, hd⟩)⟩
    · obtain ⟨k, w, hk, hkk⟩ := hv
      have hk2 : (es.map (·.1))[i]? = some k := by rw [← h2']; simp [hk]
      obtain ⟨t, rfl⟩ := Value.isInt_shape hkk
      refine ⟨.int k, ?_, .int _ _⟩
      have : (es.map fun p => V.int p.1) = (es.map (·.1)).map V.int := by simp
      rw [this, List.getElem?_map, hk2]; rfl
    · exact ⟨⟨_, Heap.get?_push_size _ rfl, rfl, by rw [List.length_map, ← el]; rfl⟩, at'.push _⟩
end
end Mine
end

section
open PySem PyProof.Rows
namespace Mine
section
variable {C : Cx} {ls : Ls} {σ σ' : View} {s : Shared} {x : V} {v : Value}

noncomputable def srcT (k : Nat) (vs : List Value) : Sem Value :=
  match k, vs with
  | 0, [v] => pure v
  | 1, vs => call (.type "range") vs
  | 2, vs => call (.type "enumerate") vs
  | 3, vs => call (.type "reversed") vs
  | _, _ => unsupported "none"

theorem rangeL_get (a b c : Int) (i : Nat) : i < (rangeL a b c).length → (rangeL a b c)[i]? = some (a + c * i) := by
  unfold rangeL
  split <;> intro h <;> simp at h <;> simp [h]
theorem rangeL_len (a b c : Int) (hc : c = 1 ∨ c = -1) : ((rangeL a b c).length : Int) = Builtin.Range.rangeSize a b c := by
  unfold rangeL Builtin.Range.rangeSize
  rcases hc with rfl | rfl
  · simp only [show (0 : Int) < 1 by omega, if_true, List.length_map, List.length_range]
    split <;> omega
  · simp only [show ¬ (0 : Int) < -1 by omega, if_false, List.length_map, List.length_range, Int.neg_neg, Int.ediv_one]
    split <;> omega

/-- from a range that lies in the heap -/
theorem it_range {y : Str} {py : Pos} (R : Rm C) {us : List V} {h₁ : Heap} {tk : Nat} {ra : Addr} {a b c : Int} {t u w : Tok} {Q : Value → Shared → Prop} {E : Value → Shared → Prop} (hr : IsRange h₁ ra a b c t u w) (hc : c = 1 ∨ c = -1)
    (ha : smallI a = true) (hb : smallI b = true) (k : ∀ b o, s.heap.get? b = some o → h₁.get? b = some o) (hz : s.heap.objs.size ≤ h₁.objs.size)
    (hQ : ∀ it h₂ tk fp P St, It C s (lockV σ us) (.Name y py) Real it [it] ((rangeL a b c).map .int) fp P St → St 0 h₂ → (∀ b o, s.heap.get? b = some o → h₂.get? b = some o) → s.heap.objs.size ≤ h₂.objs.size → Q (.ref it) { s with heap := h₂, toks := tk }) :
    wpAny (model C.W.prog C.W.w) C.A (pyIter (.ref ra)) Q E { s with heap := h₁, toks := tk } := by
  unfold smallI at ha hb
  simp only [Bool.and_eq_true, decide_eq_true_eq] at ha hb
  have hsm : Builtin.Range.small a b c = true := by
    unfold Builtin.Range.small
    have h1 : Builtin.Range.rangeSize a b c < 2 ^ 63 ∧ 0 ≤ Builtin.Range.rangeSize a b c := by
      unfold Builtin.Range.rangeSize
      rcases hc with rfl | rfl
      · simp only [show (1 : Int) > 0 by omega, if_true]; split <;> omega
      · simp only [show ¬ (-1 : Int) > 0 by omega, if_false, Int.neg_neg, Int.ediv_one]; split <;> omega
    simp only [Builtin.Range.rangeFitsLong]
    rcases hc with rfl | rfl <;> simp <;> omega
  have hl := rangeL_len a b c hc
  have W := Walks.range (prog := C.W.prog) (w := C.W.w) (A := C.A) R.hh h₁.objs.size a c (rangeL a b c).length
  rw [show (rangeL a b c).length = ((rangeL a b c).map V.int).length by simp] at W
  refine wpAny_pyIter_range hr hsm (hQ h₁.objs.size _ tk _ _ _ (It.of_walks W (fun i h st => ⟨_, st⟩) (fun b hb => .inl (by simpa using hb)) hz fun i v h' D' hi _ hv => ?_) ?_ (fun b o e => Heap.get?_push_of_some _ (k b o e)) (by rw [Heap.size_push]; exact Nat.le_succ_of_le hz))
  · obtain ⟨t', rfl⟩ := hv
    refine ⟨.int (a + i * c), ?_, .int _ _⟩
    simp at hi
    rw [List.getElem?_map, rangeL_get a b c i hi, Int.mul_comm]; rfl
  · show IsRangeIter _ _ _ _ _
    simp only [List.length_map, hl, Int.natCast_zero, Int.zero_mul, Int.add_zero, Int.sub_zero]
    exact Heap.get?_push_size _ rfl

/-- from the values on: an iterator -/
noncomputable def Src (C : Cx) (tgt : Expr) (Rp : Heap → (Addr → Prop) → Value → V → Prop) (s : Shared) (σ : View) (us xs : List V) (r : Value) (s' : Shared) : Prop :=
  ∀ (K : Value → Shared → Prop), (∀ it wr h₂ tk fp P St, It C s (lockV σ us) tgt Rp it wr xs fp P St → St 0 h₂ → (∀ b o, s.heap.get? b = some o → h₂.get? b = some o) → s.heap.objs.size ≤ h₂.objs.size → K (.ref it) { s with heap := h₂, toks := tk }) →
    wpAny (model C.W.prog C.W.w) C.A (pyIter r) K (fun _ _ => False) s'
theorem it_src {y : Str} {py : Pos} (R : Rm C) (G : Good C σ ls s) {vs : List Value} {us xs : List V} (rs : Reals s.heap (C.D σ) vs us) (h : rangeXs us = some xs) :
    wpAny (model C.W.prog C.W.w) C.A (srcT 1 vs) (fun r s' => Src C (.Name y py) Real s σ us xs r s') (fun _ _ => False) s := by
  unfold rangeXs at h
  split at h
  · obtain ⟨v, rfl, rv⟩ := rs.one
    split at h
    · rename_i hs
      cases h; cases rv
      exact call_range_1 fun K hQ => (it_range R (s := s) (σ := σ) (IsRange.new ..) (.inl rfl) (by decide) hs (fun b o e => Heap.get?_push_of_some _ e) (by rw [Heap.size_push]; omega) fun it h₂ tk fp P St I => hQ it _ h₂ tk fp P St I)
    · cases h
  · cases h

/-- enumerate, its pairs taken apart -/
theorem it_enum {elts : List Expr} {n1 : Nat} {pt : Pos} (R : Rm C) (G : Good C σ ls s) {vs : List Value} {us xs : List V} (rs : Reals s.heap (C.D σ) vs us) (h : itXs 2 σ us = some xs) :
    wpAny (model C.W.prog C.W.w) C.A (srcT 2 vs) (fun r s' => Src C (.Tuple elts n1 pt) RealP s σ us xs r s') (fun _ _ => False) s := by
  obtain ⟨x, ys, rfl, hy, rfl⟩ : ∃ x ys, us = [x] ∧ lstOf σ x = some ys ∧ xs = ys.mapIdx enumV := by
    cases us with
    | nil => exact nn h
    | cons x r =>
      cases r with
      | nil => obtain ⟨ys, h1, h2⟩ := Option.map_eq_some_iff.mp h; exact ⟨x, ys, rfl, h1, h2.symm⟩
      | cons _ _ => exact nn h
  · obtain ⟨v, rfl, rv⟩ := rs.one
    have hs : seqOf σ x = some ys := by cases x <;> first | exact hy | exact nn hy
    obtain ⟨a, items, n, rfl, ho, hz, rs'⟩ := lst_at G rv hy
    have el : items.size = ys.length := by rw [← rs'.length]; simp
    have hlt : a < s.heap.objs.size := Heap.lt_size ho
    have hL : s.heap.IsList a items := ⟨_, ho, rfl, n, rfl⟩
    have hle : a ≠ s.heap.objs.size + 1 := Nat.ne_of_lt (Nat.lt_succ_of_lt hlt)
    have hli : a ≠ s.heap.objs.size := Nat.ne_of_lt hlt
    have W := WalksT.enumerate (prog := C.W.prog) (w := C.W.w) (A := C.A) R.hh (s.heap.objs.size + 1) s.heap.objs.size a (Nat.succ_ne_self _) hle hli items
    refine call_enumerate_list hL fun h' he hit hsz hk K hQ => W.self 0 _ _ _ ⟨⟨_, he⟩, hit, hL.at fun o e => hk a o e⟩ ?_
    refine hQ (s.heap.objs.size + 1) [s.heap.objs.size + 1, s.heap.objs.size] h' s.toks [s.heap.objs.size + 1, s.heap.objs.size, a] (fun i n₀ h v => ∃ T vals, v = .ref T ∧ h.IsTuple T vals ∧ ∃ t x, items[i]? = some x ∧ vals = #[.int i t, x]) _ ⟨W.frame, fun i s' Q hi st hq => ?_, fun s' Q E st hq => W.done s' Q E (by rw [el]; simpa using st) hq, W.self, fun i h st b hb => ?_, fun b hb => ?_, fun b hb => ?_, fun i v n₀ h D' hi L hd hp => ?_⟩ ⟨⟨_, he⟩, hit, hL.at fun o e => hk a o e⟩ hk (by rw [hsz]; omega)
    · refine W.item i s' _ _ (by rw [el]; simpa using hi) st fun T vals h₂ tk hP hT ht hm hk₂ => ⟨_, rfl, ?_⟩
      refine W.go elts n1 pt i T _ _ _ hm fun h₃ st₃ hk₃ => hq _ h₃ tk ⟨T, vals, rfl, ?_, hP⟩ st₃ fun b o hb e => hk₃ b o hb (hk₂ b o hb e)
      exact ht.at fun o e => hk₃ T o (W.apart i T _ hm) e
    · obtain ⟨⟨_, e1⟩, ⟨_, e2, _⟩, _⟩ := st
      simp only [List.mem_cons, List.not_mem_nil, or_false] at hb
      rcases hb with rfl | rfl
      · exact ⟨_, e1⟩
      · exact ⟨_, e2⟩
    · simp only [List.mem_cons, List.not_mem_nil, or_false] at hb
      rcases hb with rfl | rfl | rfl
      · exact .inl (.head _)
      · exact .inl (.tail _ (.head _))
      · exact .inr ⟨hlt, src_locked G rv (.inl ⟨_, hs⟩)⟩
    · simp only [List.mem_cons, List.not_mem_nil, or_false] at hb
      rcases hb with rfl | rfl
      · exact Nat.le_succ _
      · exact Nat.le_refl _
    · obtain ⟨T, vals, rfl, ht, t, w, hw, rfl⟩ := hp
      rw [D_lock] at L
      obtain ⟨y, h1, h2⟩ := rs'.get' (i := i) (v := w) (by simpa using hw)
      exact ⟨enumV i y, by rw [List.getElem?_mapIdx, h1]; rfl, T, _, _, _, _, rfl, ht, rfl, .int _ _, h2.leaves L⟩
end
end Mine
end

section
open PySem PyProof.Rows
namespace Mine
section
variable {C C' : Cx} {ls : Ls} {σ σ' τ : View} {s s₁ s₃ : Shared}

/-- into a block of its own -/
theorem Ground.enter {h₂ : Heap} {tk : Nat} (G : Ground C σ s) (hW : C'.W = C.W) (k : ∀ b o, s.heap.get? b = some o → h₂.get? b = some o) (hz : s.heap.objs.size ≤ h₂.objs.size)
    (hN : ∀ a, C'.own a ∨ C'.B a → (C.own a ∨ C.B a) ∨ (s.heap.objs.size ≤ a ∧ ∃ o, h₂.get? a = some o)) (hd : ∀ a, C'.own a → ¬ C'.B a) : Ground C' σ { s with heap := h₂, toks := tk } := by
  have L : Leaves s.heap (C.D σ) h₂ (C'.D σ) := fun b o e hd => by
    refine ⟨k b o e, ?_⟩
    rintro (h | h)
    · exact hd (.inl h)
    · rcases hN b h with h | h
      · exact hd (.inr h)
      · exact absurd (Heap.lt_size e) (Nat.not_lt.mpr h.1)
  refine ⟨by rw [hW]; exact fun b o e => k b o (G.stays b o e), by rw [hW]; exact G.same, fun a h => ?_, by rw [hW]; exact Nat.le_trans G.larger hz, fun a c e => by rw [hW]; exact (G.sim a c e).leaves L fun o e => k a o e, fun a h => ?_, hd, fun a h => ?_⟩
  · rw [hW]
    rcases h with h | h
    · exact G.fresh a (.inl h)
    · rcases hN a h with h | h
      · exact G.fresh a (.inr h)
      · exact Nat.le_trans G.larger h.1
  · rcases hN a h with h | h
    · exact G.apart a h
    · cases q : σ a with
      | none => rfl
      | some c => exact absurd (G.lt (.inl (not_some q))) (Nat.not_lt.mpr h.1)
  · rcases hN a h with h | h
    · obtain ⟨o, e⟩ := G.old a h; exact ⟨o, k a o e⟩
    · exact h.2

theorem shared_eq {W : Wd} {s₁ s₃ : Shared} (h1 : s₁.gens = W.s₀.gens ∧ s₁.drawn = W.s₀.drawn ∧ s₁.os = W.s₀.os) (h3 : s₃.gens = W.s₀.gens ∧ s₃.drawn = W.s₀.drawn ∧ s₃.os = W.s₀.os) (h : Heap) (tk : Nat) :
    ({ s₃ with heap := h, toks := tk } : Shared) = { s₁ with heap := h, toks := tk } := by
  obtain ⟨a1, a2, a3, a4, a5⟩ := s₁
  obtain ⟨b1, b2, b3, b4, b5⟩ := s₃
  simp at h1 h3
  simp [h1, h3]

/-- out of it; `τ`: the view from then on; `N`: what was made -/
theorem Good.leave {h₄ : Heap} {tk : Nat} {N : Addr → Prop} (G : Good C σ ls s₁) (hW : C'.W = C.W) (hB : ∀ a, C.own a ∨ C.B a → C'.B a) (hN : ∀ a, N a → s₁.heap.objs.size ≤ a ∧ (C'.own a ∨ C'.B a)) (G' : Ground C' σ' s₃) (S : Step N s₁.heap σ s₃.heap σ')
    (k : ∀ b o, ¬ N b → s₃.heap.get? b = some o → h₄.get? b = some o) (hz : s₃.heap.objs.size ≤ h₄.objs.size)
    (hsub : ∀ b, τ b ≠ none → σ' b ≠ none ∨ N b) (hro : ∀ b c, σ' b = some c → τ b = some c)
    (hsim : Leaves s₃.heap (C'.D σ') h₄ (C.D τ) → ∀ a c, τ a = some c → N a → CellAt C.W.w.params h₄ (C.D τ) a c) :
    Good C τ ls { s₃ with heap := h₄, toks := tk } ∧ Step C.own s₁.heap σ h₄ τ ∧ Leaves s₃.heap (C'.D σ') h₄ (C.D τ) := by
  have L : Leaves s₃.heap (C'.D σ') h₄ (C.D τ) := fun b o e hd => by
    refine ⟨k b o (fun h => hd (.inr (hN b h).2)) e, ?_⟩
    rintro (h | h)
    · rcases hsub b h with h | h
      · exact hd (.inl h)
      · exact hd (.inr (hN b h).2)
    · exact hd (.inr (.inr (hB b h)))
  have notN : ∀ b o, s₁.heap.get? b = some o → ¬ N b := fun b o e h => absurd (Heap.lt_size e) (Nat.not_lt.mpr (hN b h).1)
  have S' : Step C.own s₁.heap σ h₄ τ := by
    refine ⟨fun b o e hr _ => k b o (notN b o e) (S.keep b o e hr (notN b o e)), Nat.le_trans S.size hz, fun b h1 h2 => ?_, fun b c hb e hr => ?_⟩
    · rcases hsub b h1 with h | h
      · exact S.grow b h h2
      · exact (hN b h).1
    · rcases S.ro b c hb e hr with h | h
      · exact .inl (hro b c h)
      · right
        cases q : τ b with
        | none => rfl
        | some c' =>
          rcases hsub b (not_some q) with h' | h'
          · exact absurd h h'
          · exact absurd hb (Nat.not_lt.mpr (hN b h').1)
  have hs : s₃.gens = C.W.s₀.gens ∧ s₃.drawn = C.W.s₀.drawn ∧ s₃.os = C.W.s₀.os := by rw [← hW]; exact G'.same
  rw [shared_eq G.same hs]
  refine ⟨G.change S' (fun b hb o e => k b o (notN b o e) (S.keep b o e (Rw.of_none (G.apart b (.inl hb))) (notN b o e))) (fun b h => ?_) (fun b h => ?_) fun b c e => ?_, S', L⟩
  · rcases hsub b h with h | h
    · have := G'.fresh b (.inl h); rwa [hW] at this
    · exact Nat.le_trans G.larger (hN b h).1
  · cases q : τ b with
    | none => rfl
    | some c =>
      rcases hsub b (not_some q) with h' | h'
      · exact absurd (G'.apart b (.inr (hB b h))) h'
      · exact absurd (G.toGround.lt (.inr h)) (Nat.not_lt.mpr (hN b h').1)
  · by_cases q : N b
    · exact hsim L b c e q
    · have hb : σ' b = some c := by
        cases q2 : σ' b with
        | some c' => have := hro b c' q2; rw [e] at this; exact this.symm
        | none =>
          rcases hsub b (not_some e) with h | h
          · exact absurd q2 h
          · exact absurd h q
      have := G'.sim b c hb
      rw [hW] at this
      exact this.leaves L fun o eo => k b o q eo

theorem Good.changeX {X : List Addr} {h' : Heap} {tk : Nat} (G : Good C σ ls s) (S : Step C.own s.heap σ h' τ)
    (own : ∀ b, C.own b → ∀ o, s.heap.get? b = some o → h'.get? b = some o)
    (sub : ∀ a, τ a ≠ none → C.W.s₀.heap.objs.size ≤ a) (ap : ∀ a, C.own a ∨ C.B a → τ a = none)
    (hX : ∀ a ∈ X, s.heap.objs.size ≤ a ∧ (∃ o, h'.get? a = some o) ∧ τ a = none)
    (sim : ∀ a c, τ a = some c → CellAt C.W.w.params h' ((C.more X).D τ) a c) : Good (C.more X) τ ls { s with heap := h', toks := tk } := by
  have keepOB : ∀ b, C.own b ∨ C.B b → ∀ o, s.heap.get? b = some o → h'.get? b = some o := fun b hb o e => by
    rcases hb with hb | hb
    · exact own b hb o e
    · exact S.keep b o e (Rw.of_none (G.apart b (.inr hb))) fun ho => G.apart2 b ho hb
  have L₀ := G.leaves S
  have L : Leaves s.heap (C.D σ) h' ((C.more X).D τ) := fun b o e hd => by
    refine ⟨(L₀ b o e hd).1, fun h => ?_⟩
    rcases (D_more b).mp h with h | h
    · exact (L₀ b o e hd).2 h
    · exact absurd (Heap.lt_size e) (Nat.not_lt.mpr (hX b h).1)
  have F := G.fr
  obtain ⟨m, hm⟩ := F.ns
  refine ⟨⟨fun b o e => ?_, G.same, fun a h => ?_, Nat.le_trans G.larger S.size, sim, fun a h => ?_, fun a h hb => ?_, fun a h => ?_⟩,
    ⟨F.kind, F.glob, F.blt, ⟨m, hm.at' fun o e => keepOB _ (.inl F.ownL) o e⟩, F.ownL, fun x c e => ?_, F.inj, fun i x d e1 e2 e3 => ?_, F.nodup, F.has⟩⟩
  · have hd : ¬ C.D σ b := fun hd => absurd (Heap.lt_size e) (Nat.not_lt.mpr (G.fresh b hd))
    exact (L₀ b o (G.stays b o e) hd).1
  · rcases (D_more a).mp h with (h | h) | h
    · exact sub a h
    · exact G.fresh a (.inr h)
    · exact Nat.le_trans G.larger (hX a h).1
  · rcases h with h | h | h
    · exact ap a (.inl h)
    · exact ap a (.inr h)
    · exact (hX a h).2.2
  · rcases hb with hb | hb
    · exact G.apart2 a h hb
    · exact absurd (G.toGround.lt (.inr (.inl h))) (Nat.not_lt.mpr (hX a hb).1)
  · rcases h with h | h | h
    · obtain ⟨o, e⟩ := G.old a (.inl h); exact ⟨o, keepOB a (.inl h) o e⟩
    · obtain ⟨o, e⟩ := G.old a (.inr h); exact ⟨o, keepOB a (.inr h) o e⟩
    · exact (hX a h).2.1
  · obtain ⟨h1, h2, v, o, ho, hv⟩ := F.cells x c e
    exact ⟨h1.imp id .inl, h2, v, o, keepOB c h1 o ho, hv⟩
  · obtain ⟨v, hv, hr⟩ := F.val i x d e1 e2 e3
    refine ⟨v, hv.at fun b hb o e => ?_, hr.leaves L⟩
    rcases hb with rfl | ⟨y, hy⟩
    · exact keepOB _ (.inl F.ownL) o e
    · exact keepOB b (F.cells y b hy).1 o e

theorem Good.leaveX {X : List Addr} {h₄ : Heap} {tk : Nat} {N : Addr → Prop} (G : Good C σ ls s₁) (hW : C'.W = C.W) (hB : ∀ a, C.own a ∨ C.B a → C'.B a) (hN : ∀ a, N a → s₁.heap.objs.size ≤ a ∧ (C'.own a ∨ C'.B a)) (G' : Ground C' σ' s₃) (S : Step N s₁.heap σ s₃.heap σ')
    (k : ∀ b o, ¬ N b → s₃.heap.get? b = some o → h₄.get? b = some o) (hz : s₃.heap.objs.size ≤ h₄.objs.size)
    (hsub : ∀ b, τ b ≠ none → σ' b ≠ none ∨ N b) (hro : ∀ b c, σ' b = some c → τ b = some c) (hX : ∀ a ∈ X, N a ∧ (∃ o, h₄.get? a = some o) ∧ τ a = none)
    (hsim : Leaves s₃.heap (C'.D σ') h₄ ((C.more X).D τ) → ∀ a c, τ a = some c → N a → CellAt C.W.w.params h₄ ((C.more X).D τ) a c) :
    Good (C.more X) τ ls { s₃ with heap := h₄, toks := tk } ∧ Step C.own s₁.heap σ h₄ τ ∧ Leaves s₃.heap (C'.D σ') h₄ ((C.more X).D τ) := by
  have L : Leaves s₃.heap (C'.D σ') h₄ ((C.more X).D τ) := fun b o e hd => by
    refine ⟨k b o (fun h => hd (.inr (hN b h).2)) e, fun h => ?_⟩
    rcases (D_more b).mp h with (h | h) | h
    · rcases hsub b h with h | h
      · exact hd (.inl h)
      · exact hd (.inr (hN b h).2)
    · exact hd (.inr (.inr (hB b h)))
    · exact hd (.inr (hN b (hX b h).1).2)
  have notN : ∀ b o, s₁.heap.get? b = some o → ¬ N b := fun b o e h => absurd (Heap.lt_size e) (Nat.not_lt.mpr (hN b h).1)
  have S' : Step C.own s₁.heap σ h₄ τ := by
    refine ⟨fun b o e hr _ => k b o (notN b o e) (S.keep b o e hr (notN b o e)), Nat.le_trans S.size hz, fun b h1 h2 => ?_, fun b c hb e hr => ?_⟩
    · rcases hsub b h1 with h | h
      · exact S.grow b h h2
      · exact (hN b h).1
    · rcases S.ro b c hb e hr with h | h
      · exact .inl (hro b c h)
      · right
        cases q : τ b with
        | none => rfl
        | some c' =>
          rcases hsub b (not_some q) with h' | h'
          · exact absurd h h'
          · exact absurd hb (Nat.not_lt.mpr (hN b h').1)
  have hs : s₃.gens = C.W.s₀.gens ∧ s₃.drawn = C.W.s₀.drawn ∧ s₃.os = C.W.s₀.os := by rw [← hW]; exact G'.same
  rw [shared_eq G.same hs]
  refine ⟨G.changeX S' (fun b hb o e => k b o (notN b o e) (S.keep b o e (Rw.of_none (G.apart b (.inl hb))) (notN b o e))) (fun b h => ?_) (fun b h => ?_) (fun a h => ⟨(hN a (hX a h).1).1, (hX a h).2⟩) fun b c e => ?_, S', L⟩
  · rcases hsub b h with h | h
    · have := G'.fresh b (.inl h); rwa [hW] at this
    · exact Nat.le_trans G.larger (hN b h).1
  · cases q : τ b with
    | none => rfl
    | some c =>
      rcases hsub b (not_some q) with h' | h'
      · exact absurd (G'.apart b (.inr (hB b h))) h'
      · exact absurd (G.toGround.lt (.inr h)) (Nat.not_lt.mpr (hN b h').1)
  · by_cases q : N b
    · exact hsim L b c e q
    · have hb : σ' b = some c := by
        cases q2 : σ' b with
        | some c' => have := hro b c' q2; rw [e] at this; exact this.symm
        | none =>
          rcases hsub b (not_some e) with h | h
          · exact absurd q2 h
          · exact absurd h q
      have := G'.sim b c hb
      rw [hW] at this
      exact this.leaves L fun o eo => k b o q eo
end
end Mine
end

section
open PySem PyProof.Rows
namespace Mine

noncomputable def relab (outer names : List (Str × NameKind)) : List (Str × NameKind) := names.map fun (n, k) => if (k == .free && outer.lookup n == some .cell) then (n, .cell) else (n, k)
noncomputable def Sc.comp (S : Sc) (scope : Scope) : Sc := { names := relab S.names scope.names, vars := S.vars }
/-- a comprehension's names; ys: its targets -/
noncomputable def compOk (S : Sc) (scope : Scope) (ys : List Str) : Bool :=
  scope.kind == .function && ys.all (fun y => scope.names.lookup y == some .local) &&
  scope.names.all fun (n, k) => k != .cell && scope.names.lookup n == some k && (k != .free || S.names.lookup n == some .cell || S.names.lookup n == some .free) && (k != .local || ys.contains n || !S.vars.contains n)

noncomputable def closOf (cells : List (Str × Addr)) : List (Str × NameKind) → List (Str × Addr) → Option (List (Str × Addr))
  | [], acc => some acc
  | (n, k) :: r, acc => if k == .free then (match cells.lookup n with | some c => closOf cells r ((n, c) :: acc) | none => none) else closOf cells r acc

theorem closureFor_of {scope : Scope} {env : Env} {cl : List (Str × Addr)} (h : closOf env.cells scope.names [] = some cl) : closureFor scope env = pure cl := by
  unfold closureFor
  have key : ∀ (names : List (Str × NameKind)) (acc : List (Str × Addr)), closOf env.cells names acc = some cl →
      (forIn names acc fun x r => (match x with
        | (name, kind) => if (kind == .free) = true then do let c ← cellOf env name; pure (ForInStep.yield ((name, c) :: r)) else pure (ForInStep.yield r)) : Sem (List (Str × Addr))) = pure cl := by
    intro names
    induction names with
    | nil => intro acc h; simp [closOf] at h; subst h; rfl
    | cons x r ih =>
      intro acc h
      obtain ⟨n, k⟩ := x
      rw [List.forIn_cons]
      simp only [closOf] at h
      split at h
      · rename_i hk
        split at h
        · rename_i c hc
          have : cellOf env n = pure c := by unfold cellOf; rw [hc]
          simp only [hk, if_true, this, pure_bind]
          exact ih _ h
        · cases h
      · rename_i hk
        simp only [hk, if_false, pure_bind]
        exact ih _ h
  have := key scope.names [] h
  simp only [this, pure_bind]

theorem closOf_mem (cells : List (Str × Addr)) : ∀ (names : List (Str × NameKind)) (acc cl : List (Str × Addr)), closOf cells names acc = some cl → (∀ n c, acc.lookup n = some c → cells.lookup n = some c) → ∀ n c, cl.lookup n = some c → cells.lookup n = some c
  | [], acc, cl, h, ha, n, c, e => by simp [closOf] at h; subst h; exact ha n c e
  | (m, k) :: r, acc, cl, h, ha, n, c, e => by
    simp only [closOf] at h
    split at h
    · split at h
      · rename_i c' hc
        refine closOf_mem cells r _ cl h (fun n' c'' e' => ?_) n c e
        rw [List.lookup_cons] at e'
        split at e'
        · rename_i q; cases e'; rw [beq_iff_eq.mp q]; exact hc
        · exact ha n' c'' e'
      · cases h
    · exact closOf_mem cells r acc cl h ha n c e
theorem closOf_has (cells : List (Str × Addr)) : ∀ (names : List (Str × NameKind)) (acc cl : List (Str × Addr)), closOf cells names acc = some cl → (∀ n, ((acc.lookup n).isSome = true ∨ names.lookup n = some .free) → (cl.lookup n).isSome = true)
  | [], acc, cl, h, n, hn => by simp [closOf] at h; subst h; simpa using hn
  | (m, k) :: r, acc, cl, h, n, hn => by
    simp only [closOf] at h
    split at h
    · rename_i hk
      split at h
      · rename_i c' hc
        refine closOf_has cells r _ cl h n ?_
        by_cases q : n = m
        · subst q; left; simp [List.lookup_cons]
        · have hb : (n == m) = false := by simpa using q
          rcases hn with hn | hn
          · left; rw [List.lookup_cons, hb]; exact hn
          · right; rw [List.lookup_cons, hb] at hn; exact hn
      · cases h
    · rename_i hk
      refine closOf_has cells r acc cl h n ?_
      rcases hn with hn | hn
      · exact .inl hn
      · by_cases q : n = m
        · subst q; simp [List.lookup_cons] at hn; subst hn; simp at hk
        · have hb : (n == m) = false := by simpa using q
          right; rw [List.lookup_cons, hb] at hn; exact hn
theorem closOf_some (cells : List (Str × Addr)) : ∀ (names : List (Str × NameKind)) (acc : List (Str × Addr)), (∀ n, (n, NameKind.free) ∈ names → ∃ c, cells.lookup n = some c) → ∃ cl, closOf cells names acc = some cl
  | [], acc, _ => ⟨acc, rfl⟩
  | (m, k) :: r, acc, h => by
    simp only [closOf]
    split
    · rename_i hk
      have hk' : k = .free := by simpa using hk
      subst hk'
      obtain ⟨c, hc⟩ := h m (.head _)
      rw [hc]
      exact closOf_some cells r _ fun n hn => h n (.tail _ hn)
    · exact closOf_some cells r acc fun n hn => h n (.tail _ hn)

theorem relab_lookup (outer : List (Str × NameKind)) : ∀ (names : List (Str × NameKind)) (n : Str), (relab outer names).lookup n = (names.lookup n).map fun k => if (k == .free && outer.lookup n == some .cell) then .cell else k
  | [], n => rfl
  | (m, k) :: r, n => by
    have ih := relab_lookup outer r n
    unfold relab at *
    simp only [List.map_cons]
    by_cases q : n = m
    · subst q
      split <;> rename_i h <;> simp only [List.lookup_cons, beq_self_eq_true, Option.map_some]
      · rw [if_pos h]
      · rw [if_neg h]
    · have hb : (n == m) = false := by simpa using q
      split <;> simp only [List.lookup_cons, hb] <;> exact ih

theorem nodup_inj {α : Type} : ∀ {l : List α}, l.Nodup → ∀ {i j : Nat} {x : α}, l[i]? = some x → l[j]? = some x → i = j
  | [], _, i, j, x, h, _ => by simp at h
  | a :: r, hn, i, j, x, h1, h2 => by
    obtain ⟨ha, hr⟩ := List.nodup_cons.mp hn
    cases i with
    | zero =>
      cases j with
      | zero => rfl
      | succ j =>
        simp at h1 h2; subst h1
        exact absurd (List.mem_iff_getElem?.mpr ⟨j, h2⟩) ha
    | succ i =>
      cases j with
      | zero =>
        simp at h1 h2; subst h2
        exact absurd (List.mem_iff_getElem?.mpr ⟨i, h1⟩) ha
      | succ j => simp at h1 h2; rw [nodup_inj hr h1 h2]
noncomputable def Cx.comp (C : Cx) (scope : Scope) (cl : List (Str × Addr)) (L acc : Addr) (wr : List Addr) : Cx :=
  { W := C.W, A := C.A, env := compEnvC scope cl L C.env, vars := C.vars, own := fun a => a = L, B := fun a => (C.own a ∨ C.B a) ∨ a = acc ∨ a ∈ wr }
noncomputable def Ls.erase (ls : Ls) (ys : List Nat) : Ls := fun j => if j ∈ ys then none else ls j

section
variable {C : Cx} {S : Sc} {ls : Ls} {σ : View} {s : Shared} {scope : Scope} {cl : List (Str × Addr)} {L acc : Addr} {wr : List Addr} {ys : List Str} {xs : List Nat}

theorem comp_names (hS : S.Of C) (hk : C.env.scope.kind = .function) : (relabel scope C.env).names = relab S.names scope.names := by
  unfold relabel relab
  simp only [hk, kindOf_eq hS, beq_self_eq_true, Bool.and_true]
theorem comp_of (hS : S.Of C) (hk : C.env.scope.kind = .function) : (S.comp scope).Of (C.comp scope cl L acc wr) := ⟨comp_names hS hk, hS.vars⟩

theorem compOk_parts (h : compOk S scope ys = true) : scope.kind = .function ∧ (∀ y ∈ ys, scope.names.lookup y = some .local) ∧
    ∀ n k, (n, k) ∈ scope.names → k ≠ .cell ∧ scope.names.lookup n = some k ∧ (k = .free → S.names.lookup n = some .cell ∨ S.names.lookup n = some .free) ∧ (k = .local → n ∈ ys ∨ n ∉ S.vars) := by
  unfold compOk at h
  simp only [Bool.and_eq_true, beq_iff_eq, List.all_eq_true, Bool.or_eq_true, bne_iff_ne, Prod.forall] at h
  refine ⟨h.1.1, h.1.2, fun n k hm => ?_⟩
  obtain ⟨⟨⟨h1, h2⟩, h3⟩, h4⟩ := h.2 n k hm
  refine ⟨h1, h2, fun hk => ?_, fun hk => ?_⟩
  · rcases h3 with (h3 | h3) | h3
    · exact absurd hk h3
    · exact .inl h3
    · exact .inr h3
  · rcases h4 with (h4 | h4) | h4
    · exact absurd hk h4
    · exact .inl (by simpa using h4)
    · exact .inr (by simpa using h4)

theorem mem_of_lookup' {α : Type} {l : List (Str × α)} {n : Str} {c : α} (h : l.lookup n = some c) : (n, c) ∈ l := mem_of_lookup h

/-- the comprehension's frame -/
theorem comp_fr (hS : S.Of C) (G : Good C σ ls s) (h : compOk S scope ys = true) (hcl : closOf C.env.cells scope.names [] = some cl) {h₄ : Heap} (k : ∀ b o, s.heap.get? b = some o → h₄.get? b = some o)
    (hL : s.heap.objs.size ≤ L) (hns : ∃ m, h₄.Ns L m) (hxs : ∀ y ∈ ys, ∃ i ∈ xs, S.vars[i]? = some y) (hO : ∀ a, (C.comp scope cl L acc wr).own a ∨ (C.comp scope cl L acc wr).B a → (C.own a ∨ C.B a) ∨ s.heap.objs.size ≤ a) :
    FrOK (C.comp scope cl L acc wr) σ (ls.erase xs) h₄ := by
  obtain ⟨hk, hy, hn⟩ := compOk_parts h
  have F := G.fr
  have hkind : ∀ x, (C.comp scope cl L acc wr).env.kindOf x = (scope.names.lookup x).map fun k => if (k == .free && S.names.lookup x == some .cell) then .cell else k := by
    intro x
    rw [kindOf_eq (comp_of hS F.kind)]
    exact relab_lookup S.names scope.names x
  have free_of : ∀ x, ((C.comp scope cl L acc wr).env.kindOf x = some .cell ∨ (C.comp scope cl L acc wr).env.kindOf x = some .free) → scope.names.lookup x = some .free := by
    intro x hx
    rw [hkind x] at hx
    cases hq : scope.names.lookup x with
    | none => rw [hq] at hx; simp at hx
    | some k' =>
      have hm := hn x k' (mem_of_lookup' hq)
      rw [hq] at hx
      simp only [Option.map_some, Option.some.injEq] at hx
      by_cases hf : k' = .free
      · rw [hf]
      · exfalso
        have : (k' == NameKind.free) = false := by simpa using hf
        simp only [this, Bool.false_and, Bool.false_eq_true, if_false] at hx
        rcases hx with hx | hx
        · exact hm.1 hx
        · exact hf hx
  have clmem := closOf_mem C.env.cells scope.names [] cl hcl (by intro n c e; simp at e)
  have clhas := closOf_has C.env.cells scope.names [] cl hcl
  refine ⟨by simp [Cx.comp, compEnvC, relabel, hk], F.glob, F.blt, hns, rfl, fun x c e => ?_, fun x y c e1 e2 => F.inj x y c (clmem x c e1) (clmem y c e2), fun i x d e1 e2 e3 => ?_, F.nodup, fun x hx => ?_⟩
  · obtain ⟨h1, h2, v, hv⟩ := F.cells x c (clmem x c e)
    refine ⟨.inr (.inl h1), ?_, v, hv.keeps k⟩
    obtain ⟨o, ho, _⟩ := hv
    exact fun q => absurd (Heap.lt_size ho) (Nat.not_lt.mpr (by rw [show c = L from q]; exact hL))
  · have hi : i ∉ xs ∧ ls i = some d := by
      unfold Ls.erase at e3
      split at e3
      · cases e3
      · rename_i q; exact ⟨q, e3⟩
    have e1' : S.vars[i]? = some x := by rw [← hS.vars]; exact e1
    have hloc : (C.comp scope cl L acc wr).env.kindOf x ≠ some .local := by
      intro hx
      rw [hkind x] at hx
      cases hq : scope.names.lookup x with
      | none => rw [hq] at hx; simp at hx
      | some k' =>
        rw [hq] at hx
        simp only [Option.map_some, Option.some.injEq] at hx
        have hk' : k' = .local := by
          split at hx
          · cases hx
          · exact hx
        subst hk'
        rcases (hn x _ (mem_of_lookup' hq)).2.2.2 rfl with h1 | h1
        · obtain ⟨j, hj, e⟩ := hxs x h1
          have : i = j := by
            have hnd : S.vars.Nodup := by rw [← hS.vars]; exact F.nodup
            exact nodup_inj hnd e1' e
            
          exact hi.1 (this ▸ hj)
        · exact h1 (List.mem_iff_getElem?.mpr ⟨i, e1'⟩)
    have hcf : (C.comp scope cl L acc wr).env.kindOf x = some .cell ∨ (C.comp scope cl L acc wr).env.kindOf x = some .free := by
      rcases e2 with e2 | e2 | e2
      · exact absurd e2 hloc
      · exact .inl e2
      · exact .inr e2
    have hfr := free_of x hcf
    have hout := (hn x _ (mem_of_lookup' hfr)).2.2.1 rfl
    have hout' : C.env.kindOf x = some .cell ∨ C.env.kindOf x = some .free := by rw [kindOf_eq hS]; exact hout
    obtain ⟨v, hv, hr⟩ := F.val i x d e1 (.inr hout') hi.2
    refine ⟨v, .inr ⟨hcf, ?_⟩, ?_⟩
    · rcases hv with ⟨hl, _⟩ | ⟨_, c, hc, hcell⟩
      · rcases hout' with h1 | h1 <;> rw [h1] at hl <;> cases hl
      · have := clhas x (.inr hfr)
        obtain ⟨c', hc'⟩ := Option.isSome_iff_exists.mp this
        have := clmem x c' hc'
        rw [hc] at this; cases this
        exact ⟨c, hc', hcell.keeps k⟩
    · refine hr.leaves fun b o e hd => ⟨k b o e, ?_⟩
      rintro (h1 | h1)
      · exact hd (.inl h1)
      · rcases hO b h1 with h1 | h1
        · exact hd (.inr h1)
        · exact absurd (Heap.lt_size e) (Nat.not_lt.mpr h1)
  · have := clhas x (.inr (free_of x hx))
    exact Option.isSome_iff_exists.mp this
end
end Mine
end

section
open PySem PyProof.Rows
namespace Mine
theorem ns_unique {h : Heap} {a : Addr} {m m' : Str → Option Value} (x : h.Ns a m) (y : h.Ns a m') (n : Str) : m n = m' n := by
  obtain ⟨o, es, ep, ho, hd, _, hf⟩ := x
  obtain ⟨o', es', ep', ho', hd', _, hf'⟩ := y
  rw [ho] at ho'; cases ho'
  rw [hd] at hd'; cases hd'
  rw [← hf, ← hf']
section
variable {C : Cx} {S : Sc} {ls : Ls} {σ : View} {s : Shared} {x : Str} {i : Nat} {v : Value} {d : V}

theorem store_good {h' : Heap} {tk : Nat} {L : Addr} (G : Good C σ ls s) (hL : C.own L ∨ C.B L) (hO : C.own L) (hi : C.vars[i]? = some x) (hs : Heap.SameBut L s.heap h') (r : Real s.heap (C.D σ) v d)
    (ex : ∃ o, h'.get? L = some o) (hx : HasVal h' C.env x v) (hns : ∃ m, h'.Ns C.env.locals m) (hcell : ∀ y c, C.env.cells.lookup y = some c → ∃ v, h'.IsCell c v)
    (hv : ∀ y w, y ≠ x → HasVal s.heap C.env y w → HasVal h' C.env y w) : Good C σ (ls.set i d) { s with heap := h', toks := tk } ∧ Step C.own s.heap σ h' σ := by
  have S : Step C.own s.heap σ h' σ := ⟨fun b o e _ ho => hs.extBut b o (fun q => ho (q ▸ hO)) e, Nat.le_of_eq hs.1.symm, fun _ h1 h2 => absurd h2 h1, fun _ _ _ e _ => .inl e⟩
  have Lv := G.leaves S
  have F := G.fr
  refine ⟨⟨⟨fun b o e => ?_, G.same, G.fresh, Nat.le_trans G.larger S.size, fun a c e => (G.sim a c e).leaves Lv fun o e' => ?_, G.apart, G.apart2, fun a h => ?_⟩,
    ⟨F.kind, F.glob, F.blt, hns, F.ownL, fun y c e => ?_, F.inj, fun j y d' e1 e2 e3 => ?_, F.nodup, F.has⟩⟩, S⟩
  · have hd : ¬ C.D σ b := fun hd => absurd (Heap.lt_size e) (Nat.not_lt.mpr (G.fresh b hd))
    exact (Lv b o (G.stays b o e) hd).1
  · refine hs.extBut a o (fun q => ?_) e'
    subst q
    have := G.apart a hL; rw [e] at this; cases this
  · by_cases q : a = L
    · rw [q]; exact ex
    · obtain ⟨o, e⟩ := G.old a h; exact ⟨o, hs.extBut a o q e⟩
  · obtain ⟨h1, h2, _⟩ := F.cells y c e
    exact ⟨h1, h2, hcell y c e⟩
  · unfold Ls.set at e3
    split at e3
    · rename_i q
      cases e3; subst q
      rw [hi] at e1; cases e1
      exact ⟨v, hx, r.leaves Lv⟩
    · rename_i q
      obtain ⟨w, hw, rw'⟩ := F.val j y d' e1 e2 e3
      exact ⟨w, hv y w (fun e => q (nodup_inj F.nodup e1 (by rw [e]; exact hi))) hw, rw'.leaves Lv⟩

theorem store (G : Good C σ ls s) (hi : C.vars[i]? = some x) (hk : C.env.kindOf x = some .local ∨ (C.env.kindOf x = some .cell ∧ ∀ c, C.env.cells.lookup x = some c → C.own c)) (r : Real s.heap (C.D σ) v d) {Q : Unit → Shared → Prop} {E : Value → Shared → Prop}
    (h : ∀ s', Good C σ (ls.set i d) s' → Step C.own s.heap σ s'.heap σ → Q () s') : wpAny (model C.W.prog C.W.w) C.A (storeName C.env x v) Q E s := by
  have F := G.fr
  rcases hk with hk | ⟨hk, hown⟩
  · obtain ⟨m, hm⟩ := F.ns
    refine wpAny_storeName_local hk hm (fun h' hn' hs' => ?_) (by rw [F.kind]; rfl)
    have := store_good (tk := s.toks + 1) G (.inl F.ownL) F.ownL hi hs' r (by obtain ⟨o, _, _, e, _⟩ := hn'; exact ⟨o, e⟩) (.inl ⟨hk, _, hn', by simp⟩) ⟨_, hn'⟩ (fun y c e => ?_) fun y w hy hw => ?_
    · exact h _ this.1 this.2
    · obtain ⟨_, h2, v', hv'⟩ := F.cells y c e
      exact ⟨v', hv'.sameBut hs' h2⟩
    · rcases hw with ⟨hl, m', hm', e⟩ | ⟨hc, c, hc', hcell⟩
      · refine .inl ⟨hl, _, hn', ?_⟩
        simp only [hy, if_false]
        rw [← e]
        exact ns_unique hm hm' y
      · exact .inr ⟨hc, c, hc', hcell.sameBut hs' (F.cells y c hc').2.1⟩
  · obtain ⟨c, hc⟩ := F.has x (.inl hk)
    obtain ⟨h1, h2, v₀, hv₀⟩ := F.cells x c hc
    obtain ⟨m, hm⟩ := F.ns
    refine wpAny_storeName_cell F.kind hk hc hv₀ fun h' hc' hs' => ?_
    have := store_good (tk := s.toks) G h1 (hown c hc) hi hs' r (by obtain ⟨o, e, _⟩ := hc'; exact ⟨o, e⟩) (.inr ⟨.inl hk, c, hc, hc'⟩) ⟨m, hm.sameBut hs' (Ne.symm h2)⟩ (fun y c' e => ?_) fun y w hy hw => ?_
    · exact h _ this.1 this.2
    · by_cases q : c' = c
      · subst q; exact ⟨_, hc'⟩
      · obtain ⟨_, _, v', hv'⟩ := F.cells y c' e
        exact ⟨v', hv'.sameBut hs' q⟩
    · rcases hw with ⟨hl, m', hm', e⟩ | ⟨hcc, c', hc'', hcell⟩
      · exact .inl ⟨hl, m', hm'.sameBut hs' (Ne.symm h2), e⟩
      · refine .inr ⟨hcc, c', hc'', hcell.sameBut hs' fun q => hy ?_⟩
        subst q
        exact F.inj y x _ hc'' hc

/-- what an assignment to a target does -/
noncomputable def Asg (C : Cx) (tgt : Expr) (Rp : Heap → (Addr → Prop) → Value → V → Prop) (up : V → Ls → Ls) : Prop :=
  ∀ (σ : View) (ls : Ls) (s : Shared) (v : Value) (x : V), Good C σ ls s → Rp s.heap (C.D σ) v x → wpAny (model C.W.prog C.W.w) C.A (assign tgt C.env v) (fun _ s' => Good C σ (up x ls) s' ∧ Step C.own s.heap σ s'.heap σ) (fun _ _ => False) s
noncomputable def rpOf : Tg → Heap → (Addr → Prop) → Value → V → Prop
  | .one _ => Real
  | .two _ _ => RealP
noncomputable def Stor (C : Cx) (x : Str) : Prop := C.env.kindOf x = some .local ∨ (C.env.kindOf x = some .cell ∧ ∀ c, C.env.cells.lookup x = some c → C.own c)
theorem asg1 {px : Pos} (hi : C.vars[i]? = some x) (hk : Stor C x) : Asg C (.Name x px) Real (Tg.up (.one i)) := fun _ _ _ _ _ G r => wpAny_assign_Name (store G hi hk r fun _ G' S' => ⟨G', S'⟩)
theorem asg2 {px py pt : Pos} {n1 : Nat} {y : Str} {j : Nat} (hh : C.A.handled = none) (hi : C.vars[i]? = some x) (hk : Stor C x) (hj : C.vars[j]? = some y) (hk' : Stor C y) : Asg C (.Tuple [.Name x px, .Name y py] n1 pt) RealP (Tg.up (.two i j)) := by
  rintro σ ls s v z G ⟨T, v1, v2, p, q, rfl, ht, rfl, r1, r2⟩
  have hu : wpAny (model C.W.prog C.W.w) C.A (unpackItems (.ref T) (#[v1, v2] : Array Value).size none) (fun vs s' => s.heap.objs.size ≤ s'.heap.objs.size ∧ ∃ h', vs = [v1, v2] ∧ s' = { s with heap := h' } ∧ Heap.ExtBut s.heap.objs.size s.heap h') (fun _ s' => s.heap.objs.size ≤ s'.heap.objs.size ∧ False) s :=
    wpAny_size (wpAny_unpackItems_tuple hh ht fun h' hx => ⟨h', rfl, rfl, hx⟩)
  rw [arm_assign_Tuple]
  refine wpAny_bind (wpAny_standAt ?_)
  show wpAny _ _ (unpack (.ref T) (assignEach [.Name x px, .Name y py] C.env)) _ _ s
  unfold unpack
  rw [show (assignEach [.Name x px, .Name y py] C.env).length = (#[v1, v2] : Array Value).size from rfl, show (assignEach [.Name x px, .Name y py] C.env).findIdx? (·.1) = none from rfl]
  refine wpAny_bind (wpAny_holding (wpAny_mono hu (fun vs s' ⟨hz, h', e1, e2, hx⟩ => ?_) fun _ _ x => x.2))
  subst e1; subst e2
  obtain ⟨G₁, S₁, L₁⟩ := G.quietW (wr := []) (tk := s.toks) (h' := h') (fun _ h => nomatch h) (fun h => nomatch h) (fun _ _ _ h => nomatch h) hz (fun b o _ e => hx b o (Nat.ne_of_lt (Heap.lt_size e)) e) (fun _ h => nomatch h)
  have S₁ := S₁ C.own fun _ h => nomatch h
  show wpAny _ _ (do holding [v2] (assign (.Name x px) C.env v1); do holding [] (assign (.Name y py) C.env v2); pure ()) _ _ _
  refine wpAny_bind (wpAny_holding (wpAny_assign_Name (store G₁ hi hk (r1.leaves L₁) fun s₂ G₂ S₂ => ?_)))
  refine wpAny_bind (wpAny_holding (wpAny_assign_Name (store G₂ hj hk' ((r2.leaves L₁).step G₁ S₂) fun s₃ G₃ S₃ => wpAny_pure ⟨G₃, (S₁.trans S₂).trans S₃⟩)))
end
end Mine
end

section
open PySem PyProof.Rows
namespace Mine
section
variable {C : Cx} {S : Sc} {ls : Ls} {σ₁ : View} {s₁ : Shared}

theorem It.item' {tgt : Expr} {Rp : Heap → (Addr → Prop) → Value → V → Prop} {xs : List V} {it : Addr} {wr fp : List Addr} {P : Nat → Nat → Heap → Value → Prop} {St : Nat → Heap → Prop} {σ₀ : View} (I : It C s₁ σ₀ tgt Rp it wr xs fp P St) {i : Nat} {s : Shared} {Q : Value → Shared → Prop} {K : Option Value → Shared → Prop} {E : Value → Shared → Prop} (hi : i < xs.length) (st : St i s.heap) (hK : ∀ v s₂, wpAny (model C.W.prog C.W.w) C.A (letOwnedTupleGo tgt (.ref it) v) (fun _ s₃ => Q v s₃) (fun _ _ => False) s₂ → K (some v) s₂)
    (h : ∀ v h' tk, P i s.heap.objs.size h' v → St (i + 1) h' → (∀ b o, b ∉ wr → s.heap.get? b = some o → h'.get? b = some o) → s.heap.objs.size ≤ h'.objs.size → Q v { s with heap := h', toks := tk }) :
    wpAny (model C.W.prog C.W.w) C.A (pyNext (.ref it)) K E s := by
  refine wpAny_mono (wpAny_size (I.item i s (fun v s' => ∃ h' tk, s' = { s with heap := h', toks := tk } ∧ P i s.heap.objs.size h' v ∧ St (i + 1) h' ∧ ∀ b o, b ∉ wr → s.heap.get? b = some o → h'.get? b = some o) hi st fun v h' tk a b c => ⟨h', tk, rfl, a, b, c⟩)) ?_ fun _ _ h => h.2.elim
  rintro r s₂ ⟨hz, v, e, hw⟩
  subst e
  refine hK v s₂ (wpAny_mono (wpAny_size hw) (fun _ s₃ ⟨hz', h', tk, e', a, b, c⟩ => ?_) fun _ _ h => h.2)
  subst e'; exact h v h' tk a b c (Nat.le_trans hz hz')
theorem It.done' {tgt : Expr} {Rp : Heap → (Addr → Prop) → Value → V → Prop} {xs : List V} {it : Addr} {wr fp : List Addr} {P : Nat → Nat → Heap → Value → Prop} {St : Nat → Heap → Prop} {σ₀ : View} (I : It C s₁ σ₀ tgt Rp it wr xs fp P St) {s : Shared} {Q : Option Value → Shared → Prop} {E : Value → Shared → Prop} (st : St xs.length s.heap)
    (h : ∀ h' tk, (∀ b o, b ∉ wr → s.heap.get? b = some o → h'.get? b = some o) → s.heap.objs.size ≤ h'.objs.size → Q none { s with heap := h', toks := tk }) :
    wpAny (model C.W.prog C.W.w) C.A (pyNext (.ref it)) Q E s := by
  refine wpAny_mono (wpAny_size (I.done s (fun r s' => ∃ h' tk, r = none ∧ s' = { s with heap := h', toks := tk } ∧ ∀ b o, b ∉ wr → s.heap.get? b = some o → h'.get? b = some o) E st fun h' tk a => ⟨h', tk, rfl, rfl, a⟩)) ?_ fun e s' h => h.2
  rintro r s' ⟨hz, h', tk, rfl, rfl, a⟩
  exact h h' tk a hz

noncomputable def Tg.idx : Tg → List Nat
  | .one i => [i]
  | .two i j => [i, j]
theorem up_erase (t : Tg) (ls : Ls) (v : V) : t.up v (ls.erase t.idx) = t.up v ls := by
  funext k
  cases t <;> simp only [Tg.up, Tg.idx, Ls.set, Ls.erase, List.mem_cons, List.not_mem_nil, or_false]
  · split <;> rfl
  · rename_i i j
    by_cases q : k = j
    · simp [q]
    · by_cases r : k = i <;> simp [q, r]
theorem up_up (t : Tg) (ls : Ls) (v w : V) : t.up v (t.up w ls) = t.up v ls := by
  funext k
  cases t <;> simp only [Tg.up, Ls.set]
  · split <;> rfl
  · split
    · rfl
    · split <;> rfl
/-- the tests of a comprehension -/
noncomputable def testsT (ifs : List Expr) (env : Env) : Sem Bool := forIn ifs true fun c r => if r = true then do let ok ← isTrue c env (eval c env); pure (ForInStep.yield ok) else pure (ForInStep.yield r)

theorem compLoop_gen {prog : Program} {w : World} {A : Around} {R : Result → Shared → Prop} {s : Shared} {elt target iter : Expr} {ifs : List Expr} {scope : Scope} {pos : Pos} {it acc : Value} {env : Env} (I : Nat → Shared → Prop)
    (turn : ∀ n s, I n s → wpAny (model prog w) A (pyNext it) (fun r s₁ => match r with
      | none => R (.ok .next) s₁
      | some v => wpAny (model prog w) A (letOwnedTupleGo target it v) (fun _ s₁ => wpAny (model prog w) A (assign target env v) (fun _ s₂ => wpAny (model prog w) A (testsT ifs env) (fun ok s₃ =>
            if ok = true then wpAny (model prog w) A (eval elt env) (fun x s₄ => wpAny (model prog w) A (call (.builtin "list.append") [acc, x]) (fun _ s₅ => ∃ m, m < n ∧ I m s₅) (fun _ _ => False) s₄) (fun _ _ => False) s₃
            else ∃ m, m < n ∧ I m s₃) (fun _ _ => False) s₂) (fun _ _ => False) s₁) (fun _ _ => False) s₁) (fun _ _ => False) s)
    (n : Nat) (h : I n s) : codeAny (model prog w) A (.compLoop (.ListComp elt [⟨target, iter, ifs, 0⟩] scope pos) 0 it acc env) R s := by
  refine codeAny_loop rfl I (fun n s hI => ?_) n h
  show wpAny _ A ((compTurn (.ListComp elt [⟨target, iter, ifs, 0⟩] scope pos) 0 it acc env).onRaise (fun x => do noteFrame x env; theTreesLotGoes x)) _ _ s
  refine wpAny_noted ?_
  rw [compTurn_list]
  refine wpAny_bind (wpAny_standAt (wpAny_bind (wpAny_mono (turn n s hI) (fun r s₁ h₁ => ?_) fun _ _ h' => h'.elim)))
  cases r with
  | none => exact wpAny_pure h₁
  | some v =>
    refine wpAny_bind (wpAny_mono h₁ (fun _ s₁ h₁ => wpAny_bind (wpAny_mono h₁ (fun _ s₂ h₂ => wpAny_bind (wpAny_mono h₂ (fun ok s₃ h₃ => ?_) fun _ _ h' => h'.elim)) fun _ _ h' => h'.elim)) fun _ _ h' => h'.elim)
    cases ok with
    | false => exact wpAny_pure ⟨rfl, h₃⟩
    | true => exact wpAny_bind (wpAny_bind (wpAny_mono h₃ (fun x s₄ h₄ => wpAny_bind (wpAny_mono h₄ (fun _ s₅ h₅ => wpAny_pure (wpAny_pure ⟨rfl, h₅⟩)) fun _ _ h' => h'.elim)) fun _ _ h' => h'.elim))

theorem comp_loop {tgt : Expr} {t : Tg} (R : Rm C) (hS : S.Of C) (G₁ : Good C σ₁ ls s₁) {us xs : List V} {it : Addr} {wr fp : List Addr} {P : Nat → Nat → Heap → Value → Prop} {St : Nat → Heap → Prop} {h₂ : Heap} {tk : Nat}
    (I : It C s₁ (lockV σ₁ us) tgt (rpOf t) it wr xs fp P St) (st : St 0 h₂) (k₂ : ∀ b o, s₁.heap.get? b = some o → h₂.get? b = some o) (hz₂ : s₁.heap.objs.size ≤ h₂.objs.size) (hbig : xs.length ≤ big)
    {scope : Scope} {ys : List Str} {pos : Pos} {iter elt : Expr} {ifs : List Expr} {cl : List (Str × Addr)} (hc : compOk S scope ys = true) (hy : ∀ z ∈ ys, ∃ i ∈ t.idx, S.vars[i]? = some z) (hcl : closOf C.env.cells scope.names [] = some cl) (hA : ∀ L a, Asg (C.comp scope cl L a wr) tgt (rpOf t) t.up)
    (J : Nat → List V → View → Prop) (hJ : J 0 [] (lockV σ₁ us)) {RR : Value → Addr → Result → Shared → Prop}
    (turn : ∀ L a k v acc σ₂ s₂, Good (C.comp scope cl L a wr) σ₂ (t.up v ls) s₂ → xs[k]? = some v → J k acc σ₂ →
      wpAny (model C.W.prog C.W.w) C.A (testsT ifs (C.comp scope cl L a wr).env) (fun ok s₃ => ∃ σ₃, Good (C.comp scope cl L a wr) σ₃ (t.up v ls) s₃ ∧ Step (C.comp scope cl L a wr).own s₂.heap σ₂ s₃.heap σ₃ ∧
        (if ok = true then TrE (C.comp scope cl L a wr) (t.up v ls) (eval elt (C.comp scope cl L a wr).env) (fun w σ₄ s₄ => ∃ d, Real s₄.heap ((C.comp scope cl L a wr).D σ₄) w d ∧ J (k + 1) (acc ++ [d]) σ₄) σ₃ s₃ else J (k + 1) acc σ₃)) (fun _ _ => False) s₂)
    (hRR : ∀ L a vs n acc σ₂ s₃ h₄ tk, s₁.heap.objs.size ≤ L → s₁.heap.objs.size ≤ a → (∀ b ∈ wr, s₁.heap.objs.size ≤ b ∧ b ≠ a ∧ b ≠ L) → a ≠ L → Ground (C.comp scope cl L a wr) σ₂ s₃ → Step (fun b => b = L ∨ b = a ∨ b ∈ wr) s₁.heap (lockV σ₁ us) s₃.heap σ₂ →
      s₃.heap.get? a = some (listObj vs n) → vs.size ≤ 2 ^ 24 → Reals s₃.heap ((C.comp scope cl L a wr).D σ₂) vs.toList acc → (∃ m, s₃.heap.Ns L m) → (∀ b o, b ∉ wr → s₃.heap.get? b = some o → h₄.get? b = some o) → s₃.heap.objs.size ≤ h₄.objs.size →
      J xs.length acc σ₂ → RR (.ref a) L (.ok .next) { s₃ with heap := h₄, toks := tk }) :
    wpAny (model C.W.prog C.W.w) C.A (newList []) (fun acc s₃ => wpAny (model C.W.prog C.W.w) C.A (newFunctionEnv scope C.env.globals cl [] C.env.qual none .none (some C.env)) (fun cenv s₄ =>
      codeAny (model C.W.prog C.W.w) C.A (.compStart (.ListComp elt [⟨tgt, iter, ifs, 0⟩] scope pos) 0 (.ref it) acc { cenv with scope := relabel scope C.env }) (RR acc cenv.locals) s₄) (fun _ _ => False) s₃) (fun _ _ => False) { s₁ with heap := h₂, toks := tk } := by
  obtain ⟨hk, hyl, hn⟩ := compOk_parts hc
  refine wpAny_newObj_type (wpAny_newFunctionEnv (fun x hx => (hn x.1 x.2 hx).1) (by intro y hy; simp at hy) (fun h₄ hns hsb => ?_) hk)
  dsimp only at hns hsb ⊢
  generalize hH3 : h₂.push { cls := .type "list", dict := none, data := .seq ([] : List Value).toArray } = h₃ at hns hsb ⊢
  have hsz3 : h₃.objs.size = h₂.objs.size + 1 := by rw [← hH3, Heap.size_push]
  have hsz4 : h₄.objs.size = h₃.objs.size + 1 := by rw [hsb.1, Heap.size_push]
  have k₄ : ∀ b o, h₂.get? b = some o → h₄.get? b = some o := fun b o e => hsb.extBut b o (Nat.ne_of_lt (by rw [hsz3]; exact Nat.lt_succ_of_lt (Heap.lt_size e))) (Heap.get?_push_of_some _ (hH3 ▸ Heap.get?_push_of_some _ e))
  have hacc : h₄.get? h₂.objs.size = some (listObj #[] 0) := hsb.extBut _ _ (by rw [hsz3]; exact Nat.ne_of_lt (Nat.lt_succ_self _)) (Heap.get?_push_of_some _ (hH3 ▸ Heap.get?_push_size _ rfl))
  have st₄ : St 0 h₄ := I.frame _ _ _ st fun b _ o e => k₄ b o e
  have wrlt : ∀ b ∈ wr, b < h₂.objs.size := fun b hb => by obtain ⟨o, e⟩ := I.alive 0 h₂ st b hb; exact Heap.lt_size e
  have hLa : h₂.objs.size ≠ h₃.objs.size := by rw [hsz3]; exact Nat.ne_of_lt (Nat.lt_succ_self _)
  have cenvEq : ({ (newEnv scope h₃.objs.size C.env.globals cl C.env.qual none .none (some C.env) builtinsNs) with scope := relabel scope C.env } : Env) = compEnvC scope cl h₃.objs.size C.env := rfl
  generalize hC' : C.comp scope cl h₃.objs.size h₂.objs.size wr = C'
  have eW : C'.W = C.W := by rw [← hC']; rfl
  have eA : C'.A = C.A := by rw [← hC']; rfl
  have eEnv : C'.env = compEnvC scope cl h₃.objs.size C.env := by rw [← hC']; rfl
  have eV : C'.vars = C.vars := by rw [← hC']; rfl
  have own' : ∀ a, C'.own a ↔ a = h₃.objs.size := fun a => by rw [← hC']; exact Iff.rfl
  have B' : ∀ a, C'.B a ↔ (C.own a ∨ C.B a) ∨ a = h₂.objs.size ∨ a ∈ wr := fun a => by rw [← hC']; exact Iff.rfl
  have newO : ∀ a, a = h₃.objs.size ∨ a = h₂.objs.size ∨ a ∈ wr → s₁.heap.objs.size ≤ a ∧ ∃ o, h₄.get? a = some o := fun a ha => by
    rcases ha with rfl | rfl | h
    · obtain ⟨o, _, _, e, _⟩ := hns
      exact ⟨by rw [hsz3]; exact Nat.le_succ_of_le hz₂, o, e⟩
    · exact ⟨hz₂, _, hacc⟩
    · obtain ⟨o, e⟩ := I.alive 0 h₄ st₄ a h
      exact ⟨I.new a h, o, e⟩
  have hN : ∀ a, C'.own a ∨ C'.B a → (C.own a ∨ C.B a) ∨ (s₁.heap.objs.size ≤ a ∧ ∃ o, h₄.get? a = some o) := fun a ha => by
    rcases ha with h | h
    · exact .inr (newO a (.inl ((own' a).mp h)))
    · rcases (B' a).mp h with h | h
      · exact .inl h
      · exact .inr (newO a (.inr h))
  have GL : Good C (lockV σ₁ us) ls s₁ := G₁.lock us
  have kk : ∀ b o, s₁.heap.get? b = some o → h₄.get? b = some o := fun b o e => k₄ b o (k₂ b o e)
  have hzz : s₁.heap.objs.size ≤ h₄.objs.size := by rw [hsz4, hsz3]; omega
  have S₄ : Step (fun b => b = h₃.objs.size ∨ b = h₂.objs.size ∨ b ∈ wr) s₁.heap (lockV σ₁ us) h₄ (lockV σ₁ us) := ⟨fun b o e _ _ => kk b o e, hzz, fun _ h1 h2 => absurd h2 h1, fun _ _ _ e _ => .inl e⟩
  have G₄ : Good C' (lockV σ₁ us) (ls.erase t.idx) { s₁ with heap := h₄, toks := tk } := by
    refine ⟨GL.toGround.enter eW kk hzz hN fun a ha hb => ?_, ?_⟩
    · have := (own' a).mp ha
      subst this
      rcases (B' _).mp hb with h | h | h
      · exact absurd (GL.toGround.lt (.inr h)) (Nat.not_lt.mpr (by rw [hsz3]; exact Nat.le_succ_of_le hz₂))
      · exact hLa h.symm
      · exact absurd (wrlt _ h) (Nat.not_lt.mpr (by rw [hsz3]; exact Nat.le_succ _))
    · rw [← hC']
      exact comp_fr hS GL hc hcl kk (by rw [hsz3]; exact Nat.le_succ_of_le hz₂) ⟨_, hns⟩ hy fun a ha => (hN a (by rw [← hC']; exact ha)).imp id (·.1)
  have leavesB : ∀ {σ' : View} {h' : Heap}, Step (fun b => b = h₃.objs.size ∨ b = h₂.objs.size ∨ b ∈ wr) s₁.heap (lockV σ₁ us) h' σ' → Leaves s₁.heap (C.D (lockV σ₁ us)) h' (C'.D σ') := fun S' b o e hd => by
    have hlt := Heap.lt_size e
    have hn : lockV σ₁ us b = none := by
      cases q : lockV σ₁ us b with
      | none => rfl
      | some c => exact absurd (.inl (not_some q)) hd
    have hnew : ¬ (b = h₃.objs.size ∨ b = h₂.objs.size ∨ b ∈ wr) := fun h => absurd hlt (Nat.not_lt.mpr (newO b h).1)
    refine ⟨S'.keep b o e (Rw.of_none hn) hnew, ?_⟩
    rintro (h | h)
    · exact h (S'.none hlt hn)
    · rcases hN b h with h | h
      · exact hd (.inr h)
      · exact absurd hlt (Nat.not_lt.mpr h.1)
  have loop : ∀ s₅ : Shared, s₅ = { s₁ with heap := h₄, toks := tk } →
      codeAny (model C.W.prog C.W.w) C.A (.compLoop (.ListComp elt [⟨tgt, iter, ifs, 0⟩] scope pos) 0 (.ref it) (.ref h₂.objs.size) (compEnvC scope cl h₃.objs.size C.env)) (RR (.ref h₂.objs.size) h₃.objs.size) s₅ := by
    rintro s₅ rfl
    refine compLoop_gen
      (fun m s' => ∃ k acc σ₂ vs n ls', m = xs.length + 1 - k ∧ k ≤ xs.length ∧ J k acc σ₂ ∧ Good C' σ₂ ls' s' ∧ (∀ v, t.up v ls' = t.up v ls) ∧ Step (fun b => b = h₃.objs.size ∨ b = h₂.objs.size ∨ b ∈ wr) s₁.heap (lockV σ₁ us) s'.heap σ₂ ∧ St k s'.heap ∧
        s'.heap.get? h₂.objs.size = some (listObj vs n) ∧ vs.size ≤ k ∧ Reals s'.heap (C'.D σ₂) vs.toList acc) ?_ (xs.length + 1)
      ⟨0, [], _, #[], 0, _, by omega, Nat.zero_le _, hJ, G₄, fun v => up_erase t ls v, S₄, st₄, hacc, by simp, .nil⟩
    rintro m s' ⟨k, acc, σ₂, vs, n, ls', rfl, hkl, hJk, G', hset, S', st', hav, hvz, rs⟩
    have wrB : ∀ b ∈ wr, C'.own b ∨ C'.B b := fun b hb => .inr ((B' b).mpr (.inr (.inr hb)))
    have cellsOld : ∀ x c, C'.env.cells.lookup x = some c → c < s₁.heap.objs.size := fun x c e => by
      have := closOf_mem C.env.cells scope.names [] cl hcl (by intro n c e; simp at e) x c (by rw [eEnv] at e; exact e)
      obtain ⟨_, _, v, o, ho, _⟩ := G₁.fr.cells x c this
      exact Heap.lt_size ho
    have hLw : C'.env.locals ∉ wr := by
      rw [eEnv]; intro h
      have := wrlt _ h
      have h' : h₃.objs.size < h₂.objs.size := this
      omega
    have aB : C'.own h₂.objs.size ∨ C'.B h₂.objs.size := .inr ((B' _).mpr (.inr (.inl rfl)))
    have aL : C'.env.locals ≠ h₂.objs.size := by rw [eEnv]; exact Ne.symm hLa
    by_cases hlt : k < xs.length
    · -- one more item
      refine I.item' hlt st' (fun v s₂ h => h) fun v h' tk' hP st'' hk' hz' => ?_
      have awr : h₂.objs.size ∉ wr := fun h => Nat.lt_irrefl _ (wrlt _ h)
      obtain ⟨G₅, S₅, L₅⟩ := G'.quietW (tk := tk') wrB hLw (fun x c e h => absurd (cellsOld x c e) (Nat.not_lt.mpr (I.new c h))) hz' hk' (I.alive _ _ st'')
      have S₅ := S₅ (fun b => b = h₃.objs.size ∨ b = h₂.objs.size ∨ b ∈ wr) fun b hb => .inr (.inr hb)
      have Lb := leavesB (S'.trans S₅)
      obtain ⟨xv, hxv, rxv⟩ := I.val k v s'.heap.objs.size h' (C'.D σ₂) hlt Lb (fun a ha => G'.toGround.lt ha) hP
      have rs₅ : Reals h' (C'.D σ₂) vs.toList acc := rs.leaves L₅
      have hav₅ : h'.get? h₂.objs.size = some (listObj vs n) := hk' _ _ awr hav
      have wk : ∀ a, C'.own a → a = h₃.objs.size ∨ a = h₂.objs.size ∨ a ∈ wr := fun a ha => .inl ((own' a).mp ha)
      have keepB : ∀ {hA hB : Heap} {σA σB : View} {sA : Shared} {lA : Ls}, sA.heap = hA → Good C' σA lA sA → Step C'.own hA σA hB σB → ∀ b, C'.B b → ∀ o, hA.get? b = some o → hB.get? b = some o := by
        rintro hA hB σA σB sA lA rfl GA SA b hb o e
        exact SA.keep b o e (Rw.of_none (GA.apart b (.inr hb))) fun h => GA.apart2 b h hb
      have stKeep : ∀ {hA hB : Heap} {σA σB : View} {sA : Shared} {lA : Ls}, sA.heap = hA → Good C' σA lA sA → Step C'.own hA σA hB σB → Step (fun b => b = h₃.objs.size ∨ b = h₂.objs.size ∨ b ∈ wr) s₁.heap (lockV σ₁ us) hA σA → St (k + 1) hA → St (k + 1) hB := by
        intro hA hB σA σB sA lA eA GA SA SA₀ stA
        refine I.frame _ _ _ stA fun b hb o e => ?_
        rcases I.fps b hb with h | ⟨h1, h2, h3⟩
        · exact keepB eA GA SA b ((B' b).mpr (.inr (.inr h))) o e
        · refine SA.keep b o e (SA₀.notRw h1 h2) fun h => ?_
          exact absurd h1 (Nat.not_lt.mpr (newO b (.inl ((own' b).mp h))).1)
      have goal : ∀ s₆, Good C' σ₂ (t.up xv ls) s₆ → Step C'.own h' σ₂ s₆.heap σ₂ → wpAny (model C.W.prog C.W.w) C.A (testsT ifs C'.env) (fun ok s₃ =>
            if ok = true then wpAny (model C.W.prog C.W.w) C.A (eval elt C'.env) (fun x s₄ =>
              wpAny (model C.W.prog C.W.w) C.A (call (.builtin "list.append") [.ref h₂.objs.size, x]) (fun _ s₅ => ∃ m, m < xs.length + 1 - k ∧ ∃ k acc σ₂ vs n ls', m = xs.length + 1 - k ∧ k ≤ xs.length ∧ J k acc σ₂ ∧ Good C' σ₂ ls' s₅ ∧ (∀ v, t.up v ls' = t.up v ls) ∧ Step (fun b => b = h₃.objs.size ∨ b = h₂.objs.size ∨ b ∈ wr) s₁.heap (lockV σ₁ us) s₅.heap σ₂ ∧ St k s₅.heap ∧
        s₅.heap.get? h₂.objs.size = some (listObj vs n) ∧ vs.size ≤ k ∧ Reals s₅.heap (C'.D σ₂) vs.toList acc) (fun _ _ => False) s₄) (fun _ _ => False) s₃
            else ∃ m, m < xs.length + 1 - k ∧ ∃ k acc σ₂ vs n ls', m = xs.length + 1 - k ∧ k ≤ xs.length ∧ J k acc σ₂ ∧ Good C' σ₂ ls' s₃ ∧ (∀ v, t.up v ls' = t.up v ls) ∧ Step (fun b => b = h₃.objs.size ∨ b = h₂.objs.size ∨ b ∈ wr) s₁.heap (lockV σ₁ us) s₃.heap σ₂ ∧ St k s₃.heap ∧
        s₃.heap.get? h₂.objs.size = some (listObj vs n) ∧ vs.size ≤ k ∧ Reals s₃.heap (C'.D σ₂) vs.toList acc) (fun _ _ => False) s₆ := by
        intro s₆ G₆ S₆
        have hset2 : ∀ v, t.up v (t.up xv ls) = t.up v ls := fun v => up_up t ls v xv
        have S06 := (S'.trans S₅).trans (S₆.weaken wk)
        have hav₆ := keepB rfl G₅ S₆ _ ((B' _).mpr (.inr (.inl rfl))) _ hav₅
        have st₆ := stKeep rfl G₅ S₆ (S'.trans S₅) st''
        have rs₆ := rs₅.step G₅ S₆
        have ht := turn h₃.objs.size h₂.objs.size k xv acc σ₂ s₆
        rw [hC'] at ht
        refine wpAny_mono (ht G₆ hxv hJk) (fun ok s₇ ⟨σ₇, G₇, S₇, h₇⟩ => ?_) fun _ _ x => x
        have hav₇ := keepB rfl G₆ S₇ _ ((B' _).mpr (.inr (.inl rfl))) _ hav₆
        have st₇ := stKeep rfl G₆ S₇ S06 st₆
        have S07 := S06.trans (S₇.weaken wk)
        have rs₇ := rs₆.step G₆ S₇
        cases ok with
        | false =>
          simp only [Bool.false_eq_true, if_false] at h₇ ⊢
          exact ⟨xs.length + 1 - (k + 1), by omega, k + 1, acc, σ₇, vs, n, _, rfl, by omega, h₇, G₇, hset2, S07, st₇, hav₇, by omega, rs₇⟩
        | true =>
          simp only [if_true] at h₇ ⊢
          have h₇' := h₇
          unfold TrE at h₇'
          rw [eW, eA] at h₇'
          refine wpAny_mono h₇' (fun w s₈ ⟨σ₈, G₈, S₈, d, rd, hJd⟩ => ?_) fun _ _ x => x
          have hav₈ := keepB rfl G₇ S₈ _ ((B' _).mpr (.inr (.inl rfl))) _ hav₇
          have st₈ := stKeep rfl G₇ S₈ S07 st₇
          have S08 := S07.trans (S₈.weaken wk)
          have rs₈ := rs₇.step G₇ S₈
          have hzv : vs.size ≤ 2 ^ 24 := Nat.le_trans hvz (Nat.le_trans (Nat.le_of_lt hlt) hbig)
          have hsb : Heap.SameBut h₂.objs.size s₈.heap (s₈.heap.update h₂.objs.size (Obj.mapSeq fun x => x.push w)) := Heap.SameBut.update ..
          have hnew : (s₈.heap.update h₂.objs.size (Obj.mapSeq fun x => x.push w)).get? h₂.objs.size = some (listObj (vs.push w) (if (vs.push w).size == vs.size then n else n + 1)) := Heap.get?_update_self _ hav₈ rfl
          obtain ⟨G₉, S₉, L₉⟩ := G₈.quietW (wr := [h₂.objs.size]) (tk := s₈.toks) (h' := s₈.heap.update h₂.objs.size (Obj.mapSeq fun x => x.push w)) (fun b hb => by simp at hb; subst hb; exact aB) (by simp; exact aL)
            (fun x c e h => by simp at h; exact absurd (cellsOld x c e) (Nat.not_lt.mpr (by rw [h]; exact hz₂))) (Nat.le_of_eq hsb.1.symm) (fun b o hb e => hsb.extBut b o (by simpa using hb) e) (fun b hb => by simp at hb; subst hb; exact ⟨_, hnew⟩)
          have S₉ := S₉ (fun b => b = h₃.objs.size ∨ b = h₂.objs.size ∨ b ∈ wr) fun b hb => by simp at hb; exact .inr (.inl hb)
          refine call_meets F.slot_list_append ⟨_, hav₈, rfl⟩ F.entry_list_append (F.args_list_append_2 _ _) (PySem.list_append h₂.objs.size vs n w (sz hzv)) ⟨hav₈, ?_⟩
          refine ⟨xs.length + 1 - (k + 1), by omega, k + 1, acc ++ [d], σ₈, vs.push w, _, _, rfl, by omega, hJd, G₉, hset2, S08.trans S₉, ?_, hnew, by rw [Array.size_push]; omega, ?_⟩
          · refine I.frame _ _ _ st₈ fun b hb o e => hsb.extBut b o (fun q => ?_) e
            subst q
            rcases I.fps _ hb with h | ⟨h1, _⟩
            · exact awr h
            · exact absurd h1 (Nat.not_lt.mpr hz₂)
          · rw [Array.toList_push]
            exact (rs₈.leaves L₉).append (.cons (rd.leaves L₉) .nil)
      have hstore := hA h₃.objs.size h₂.objs.size
      rw [hC'] at hstore
      have hstore := hstore σ₂ ls' _ v xv G₅ rxv
      rw [eW, eA, hset] at hstore
      rw [← eEnv]
      exact wpAny_mono hstore (fun _ s₆ ⟨G₆, S₆⟩ => goal s₆ G₆ S₆) fun _ _ x => x
    · -- the end
      have hk0 : k = xs.length := by omega
      subst hk0
      refine I.done' st' fun h' tk' hk' hz' => ?_
      have hR := hRR h₃.objs.size h₂.objs.size vs n acc σ₂ s' h' tk' (by rw [hsz3]; exact Nat.le_succ_of_le hz₂) hz₂ (fun b hb => ⟨I.new b hb, Nat.ne_of_lt (wrlt b hb), Nat.ne_of_lt (by rw [hsz3]; exact Nat.lt_succ_of_lt (wrlt b hb))⟩) hLa
      rw [hC'] at hR
      refine hR G'.toGround S' hav (Nat.le_trans hvz hbig) rs ?_ hk' hz' hJk
      have := G'.fr.ns
      rw [eEnv] at this
      exact this
  exact codeAny_compStart_list (loop _ rfl) (I.self 0 _ _ _ st₄ (loop _ rfl))
end
end Mine
end

section
open PySem PyProof.Rows
namespace Mine
section
variable {C C₁ C₂ : Cx} {S : Sc} {ls : Ls} {σ σ₁ τ τ₂ : View} {s s₁ : Shared}

theorem Good.reB (hW : C₂.W = C₁.W) (henv : C₂.env = C₁.env) (hv : C₂.vars = C₁.vars) (hown : C₂.own = C₁.own) (G : Good C₁ τ ls s) (hD : ∀ b, C₂.D τ₂ b → C₁.D τ b) (hap : ∀ a, C₂.own a ∨ C₂.B a → τ₂ a = none) (hap2 : ∀ a, C₂.own a → ¬ C₂.B a)
    (hc : ∀ x c, C₂.env.cells.lookup x = some c → C₂.own c ∨ C₂.B c) (sim : Leaves s.heap (C₁.D τ) s.heap (C₂.D τ₂) → ∀ a c, τ₂ a = some c → CellAt C₂.W.w.params s.heap (C₂.D τ₂) a c) : Good C₂ τ₂ ls s := by
  have L : Leaves s.heap (C₁.D τ) s.heap (C₂.D τ₂) := fun b o e hd => ⟨e, fun h => hd (hD b h)⟩
  have F := G.fr
  refine ⟨⟨by rw [hW]; exact G.stays, by rw [hW]; exact G.same, fun a h => by rw [hW]; exact G.fresh a (hD a h), by rw [hW]; exact G.larger, sim L, hap, hap2, fun a h => G.toGround.there (hD a (.inr h))⟩,
    ⟨by rw [henv]; exact F.kind, by rw [henv]; exact F.glob, by rw [henv]; exact F.blt, by rw [henv]; exact F.ns, by rw [hown, henv]; exact F.ownL, fun x c e => ⟨hc x c e, by rw [henv] at e ⊢; exact (F.cells x c e).2⟩, by rw [henv]; exact F.inj, fun i x d e1 e2 e3 => ?_, by rw [hv]; exact F.nodup, by rw [henv]; exact F.has⟩⟩
  rw [henv] at e2 ⊢
  rw [hv] at e1
  obtain ⟨v, h1, h2⟩ := F.val i x d e1 e2 e3
  exact ⟨v, h1, h2.leaves L⟩

/-- an object that was kept apart is read as it is -/
theorem Good.release {a : Addr} {X : List Addr} (G₁ : Good C σ₁ ls s₁) {ls' : Ls} (G : Good (C.more (a :: X)) τ ls' s) : Good (C.more X) τ ls' s ∧ Leaves s.heap ((C.more (a :: X)).D τ) s.heap ((C.more X).D τ) := by
  have hD : ∀ b, (C.more X).D τ b → (C.more (a :: X)).D τ b := fun b h => (D_more b).mpr (((D_more b).mp h).imp id (List.mem_cons_of_mem _))
  refine ⟨Good.reB (C₁ := C.more (a :: X)) rfl rfl rfl rfl G hD (fun b h => G.apart b (h.imp id fun h => h.imp id (List.mem_cons_of_mem _))) (fun b h hb => G.apart2 b h (hb.imp id (List.mem_cons_of_mem _)))
    (fun x c e => (G₁.fr.cells x c e).1.imp id .inl) fun L b c e => (G.sim b c e).leaves L fun _ e => e, fun b o e hd => ⟨e, fun h => hd (hD b h)⟩⟩
/-- or becomes the view's -/
theorem Good.adopt {a : Addr} {X : List Addr} {c : Cell} (G₁ : Good C σ₁ ls s₁) {ls' : Ls} (G : Good (C.more (a :: X)) τ ls' s) (ha : s₁.heap.objs.size ≤ a) (haX : a ∉ X)
    (hc : ∀ D', Leaves s.heap ((C.more (a :: X)).D τ) s.heap D' → CellAt C.W.w.params s.heap D' a c) : Good (C.more X) (τ.upd a c) ls' s := by
  have hD : ∀ b, (C.more X).D (τ.upd a c) b → (C.more (a :: X)).D τ b := fun b h => by
    rcases (D_more b).mp h with (h | h) | h
    · by_cases q : b = a
      · subst q; exact (D_more b).mpr (.inr (.head _))
      · rw [upd_ne q] at h; exact (D_more b).mpr (.inl (.inl h))
    · exact (D_more b).mpr (.inl (.inr h))
    · exact (D_more b).mpr (.inr (.tail _ h))
  have hne : ∀ b, C.own b ∨ C.B b → b ≠ a := fun b h => Nat.ne_of_lt (Nat.lt_of_lt_of_le (G₁.toGround.lt (.inr h)) ha)
  refine Good.reB (C₁ := C.more (a :: X)) rfl rfl rfl rfl G hD (fun b h => ?_) (fun b h hb => G.apart2 b h (hb.imp id (List.mem_cons_of_mem _))) (fun x c e => (G₁.fr.cells x c e).1.imp id .inl) fun L b d e => ?_
  · have : b ≠ a := by
      rcases h with h | h | h
      · exact hne b (.inl h)
      · exact hne b (.inr h)
      · rintro rfl; exact haX h
    rw [upd_ne this]
    exact G.apart b (h.imp id fun h => h.imp id (List.mem_cons_of_mem _))
  · by_cases q : b = a
    · subst q; rw [upd_self] at e; cases e; exact hc _ L
    · rw [upd_ne q] at e; exact (G.sim b d e).leaves L fun _ e => e

theorem unlockV_cases (σ₁ σ₂ : View) (us : List V) : unlockV σ₁ us σ₂ = σ₂ ∨ ∃ a c c', us = [.ref a] ∧ σ₁ a = some c ∧ σ₂ a = some c' ∧ unlockV σ₁ us σ₂ = σ₂.upd a c := by
  unfold unlockV
  split
  · split
    · rename_i e1 e2; exact .inr ⟨_, _, _, rfl, e1, e2, rfl⟩
    · rename_i e1 e2; exact .inr ⟨_, _, _, rfl, e1, e2, rfl⟩
    · exact .inl rfl
  · exact .inl rfl
/-- the end of a comprehension: its list -/
theorem comp_end (G₁ : Good C σ₁ ls s₁) {us acc : List V} {scope : Scope} {cl : List (Str × Addr)} {L a : Addr} {wr : List Addr} {vs : Array Value} {n : Nat} {σ₂ : View} {s₃ : Shared} {h₄ : Heap} {tk : Nat} (hL : s₁.heap.objs.size ≤ L) (ha : s₁.heap.objs.size ≤ a)
    (hw : ∀ b ∈ wr, s₁.heap.objs.size ≤ b ∧ b ≠ a ∧ b ≠ L) (haL : a ≠ L) (G : Ground (C.comp scope cl L a wr) σ₂ s₃) (S : Step (fun b => b = L ∨ b = a ∨ b ∈ wr) s₁.heap (lockV σ₁ us) s₃.heap σ₂) (hav : s₃.heap.get? a = some (listObj vs n)) (hvz : vs.size ≤ 2 ^ 24)
    (rs : Reals s₃.heap ((C.comp scope cl L a wr).D σ₂) vs.toList acc) (hns : ∃ m, s₃.heap.Ns L m) (k : ∀ b o, b ∉ wr → s₃.heap.get? b = some o → h₄.get? b = some o) (hz : s₃.heap.objs.size ≤ h₄.objs.size) :
    (Good (C.more [L]) (unlockV σ₁ us σ₂) ls { s₃ with heap := h₄, toks := tk } ∧ Step C.own s₁.heap σ₁ h₄ (unlockV σ₁ us σ₂) ∧ Real h₄ ((C.more [L]).D (unlockV σ₁ us σ₂)) (.ref a) (.lst acc)) ∧
    (Good (C.more [L]) ((unlockV σ₁ us σ₂).upd a (.list false acc)) ls { s₃ with heap := h₄, toks := tk } ∧ Step C.own s₁.heap σ₁ h₄ ((unlockV σ₁ us σ₂).upd a (.list false acc)) ∧ unlockV σ₁ us σ₂ a = none) ∧ ∃ m, h₄.Ns L m := by
  have hLw : L ∉ wr := fun h => (hw L h).2.2 rfl
  have haw : a ∉ wr := fun h => (hw a h).2.1 rfl
  have hns4 : ∃ m, h₄.Ns L m := by obtain ⟨m, hm⟩ := hns; exact ⟨m, hm.at' fun o e => k L o hLw e⟩
  have hav4 := k a _ haw hav
  have oL : ∃ o, h₄.get? L = some o := by obtain ⟨m, o, _, _, e, _⟩ := hns4; exact ⟨o, e⟩
  have σnone : ∀ b, (b = L ∨ b = a ∨ b ∈ wr) → σ₂ b = none := fun b h => by
    rcases h with rfl | h
    · exact G.apart b (.inl rfl)
    · exact G.apart b (.inr (.inr h))
  obtain ⟨G₄, S₄, L₄⟩ := (G₁.lock us).leaveX (X := [a, L]) (τ := σ₂) (h₄ := h₄) (tk := tk) (N := fun b => b = L ∨ b = a ∨ b ∈ wr) (C' := C.comp scope cl L a wr) rfl (fun b h => .inl h)
    (fun b h => by
      rcases h with rfl | rfl | h
      · exact ⟨hL, .inl rfl⟩
      · exact ⟨ha, .inr (.inr (.inl rfl))⟩
      · exact ⟨(hw b h).1, .inr (.inr (.inr h))⟩) G S (fun b o hb e => k b o (fun h => hb (.inr (.inr h))) e) hz (fun b h => .inl h) (fun b c h => h)
    (fun b hb => by
      simp at hb
      rcases hb with rfl | rfl
      · exact ⟨.inr (.inl rfl), ⟨_, hav4⟩, σnone _ (.inr (.inl rfl))⟩
      · exact ⟨.inl rfl, oL, σnone _ (.inl rfl)⟩)
    (fun _ b c e hb => by rw [σnone b hb] at e; cases e)
  obtain ⟨G₅, S₅⟩ := unlock (us := us) (s₁ := s₁) (fun b hb => G₁.toGround.lt (.inl hb)) G₄ S₄
  have rs4 : Reals h₄ ((C.more [a, L]).D (unlockV σ₁ us σ₂)) vs.toList acc := by
    have := rs.leaves L₄
    have e : (C.more [a, L]).D (unlockV σ₁ us σ₂) = (C.more [a, L]).D σ₂ := by
      funext b
      unfold Cx.D
      have : unlockV σ₁ us σ₂ b ≠ none ↔ σ₂ b ≠ none := by
        rcases unlockV_cases σ₁ σ₂ us with e | ⟨a', c, c', _, _, e2, e⟩
        · rw [e]
        · rw [e]
          by_cases q : b = a'
          · subst q; simp [e2]
          · rw [upd_ne q]
      rw [this]
    rw [e]; exact this
  have una : unlockV σ₁ us σ₂ a = none := G₅.apart a (.inr (.inr (.head _)))
  refine ⟨?_, ?_, hns4⟩
  · obtain ⟨G₆, L₆⟩ := Good.release G₁ G₅
    refine ⟨G₆, S₅, .lst hav4 hvz (fun hd => ?_) (rs4.leaves L₆)⟩
    rcases (D_more a).mp hd with (h | h) | h
    · exact h una
    · exact absurd (G₁.toGround.lt (.inr h)) (Nat.not_lt.mpr ha)
    · simp at h; exact haL h
  · refine ⟨Good.adopt G₁ G₅ ha (by simpa using haL) fun D' L' => ⟨vs, n, hav4, hvz, rs4.leaves L'⟩, ?_, una⟩
    refine ⟨S₅.keep, S₅.size, fun b h1 h2 => ?_, fun b c hb e hr => ?_⟩
    · by_cases q : b = a
      · rw [q]; exact ha
      · rw [upd_ne q] at h1; exact S₅.grow b h1 h2
    · have : b ≠ a := Nat.ne_of_lt (Nat.lt_of_lt_of_le hb ha)
      rw [upd_ne this]; exact S₅.ro b c hb e hr
end
end Mine
end

section
open PySem PyProof.Rows
namespace Mine

structure Pg where
  fns : List Str
  gcs : List Str

noncomputable def isLoc (S : Sc) (x : Str) : Bool := (match S.names.lookup x with | some .local => true | some .cell => true | some .free => true | _ => false) && !(x == ("__debug__" : Str)) && !(x == ("__classdict__" : Str))
noncomputable def litOk : V → Const → Bool
  | .none, .none => true
  | .bool a, .bool b => a == b
  | .int i, .int j => i == j
  | .str x, .str y => x == y && PyData.strOk x && decide (x.cps.size ≤ 1000)
  | _, _ => false
noncomputable def iterArgs (n : String) (S : Sc) : Expr → Option (List Expr)
  | .Call (.Name f _) args [] _ => if f = Str.ofString n ∧ glob S f = true ∧ noStar args = true ∧ args.isEmpty = false then some args else none
  | _ => none
/-- a target and its names -/
noncomputable def agTg (S : Sc) : Tg → Expr → Option (List Str)
  | .one i, .Name y _ => if S.vars[i]? = some y then some [y] else none
  | .two i j, .Tuple [.Name y _, .Name z _] _ _ => if S.vars[i]? = some y ∧ S.vars[j]? = some z then some [y, z] else none
  | _, _ => none
/-- enumerate goes to two names, all else to one -/
noncomputable def okI : Tg → MI → Bool
  | .two _ _, .enum _ => true
  | .two _ _, _ => false
  | .one _, .enum _ => false
  | .one _, _ => true

/-- asked as a test, its value is asked -/
noncomputable def tplain : Expr → Bool
  | .UnaryOp .Not _ _ => false
  | .BoolOp _ _ _ => false
  | .IfExp _ _ _ _ => false
  | .Compare _ [_] [r] _ => notSet r
  | .Compare _ _ _ _ => false
  | _ => true

mutual
noncomputable def agE (P : Pg) (S : Sc) : ME → Expr → Bool
  | .var i, e => match e with
    | .Name x _ => S.vars[i]? == some x && isLoc S x
    | _ => false
  | .lit d, e => match e with
    | .Constant c _ _ => litOk d c
    | _ => false
  | .gcon _, _ => false
  | .op o args, e => match shp S o e with
    | some es => agEs P S args es
    | none => false
  | .meth o b args, e => match mshp o e with
    | some (b', es) => agE P S b b' && agEs P S args es
    | none => false
  | .dict _ ks vs, e => match e with
    | .Dict [] [] _ => ks.isEmpty && (match vs with | .nil => true | _ => false)
    | _ => false
  | .and es, e => match e with
    | .BoolOp .And vs _ => agEs P S es vs
    | _ => false
  | .or es, e => match e with
    | .BoolOp .Or vs _ => agEs P S es vs
    | _ => false
  | .not m, e => match e with
    | .UnaryOp .Not x _ => agE P S m x
    | _ => false
  | .cmp2 _ _ _ _ _, _ => false
  | .call f args, e => match e with
    | .Call (.Name g _) as [] _ => P.fns[f]? == some g && glob S g && noStar as && !as.isEmpty && agEs P S args as
    | _ => false
  | .comp _ elt x it ifs, e => match e with
    | .ListComp el [⟨tg, iter, fs, 0⟩] scope _ => (match agTg S x tg with | some ys => compOk S scope ys | none => false) && okI x it && notSet iter && agI P S it iter && agEs P (S.comp scope) ifs fs && agE P (S.comp scope) elt el
    | _ => false
  | .frz _, _ => false
noncomputable def agEs (P : Pg) (S : Sc) : MEs → List Expr → Bool
  | .nil, es => es.isEmpty
  | .cons m ms, es => match es with
    | e :: r => agE P S m e && agEs P S ms r
    | [] => false
noncomputable def agI (P : Pg) (S : Sc) : MI → Expr → Bool
  | .seq m, e => agE P S m e
  | .range ms, e => match iterArgs "range" S e with
    | some es => agEs P S ms es
    | none => false
  | .enum ms, e => match iterArgs "enumerate" S e with
    | some es => agEs P S ms es
    | none => false
end

section
variable {P : Pg} {S : Sc} {e : Expr}
theorem ag_var {i : Nat} (h : agE P S (.var i) e = true) : ∃ x p, e = .Name x p ∧ (S.vars[i]? == some x && isLoc S x) = true := by
  cases e <;> first | exact ⟨_, _, rfl, h⟩ | exact ff h
theorem ag_lit {d : V} (h : agE P S (.lit d) e = true) : ∃ c k p, e = .Constant c k p ∧ litOk d c = true := by
  cases e <;> first | exact ⟨_, _, _, rfl, h⟩ | exact ff h

theorem ag_op {o : Op} {args : MEs} (h : agE P S (.op o args) e = true) : ∃ es, shp S o e = some es ∧ agEs P S args es = true := by
  have h : (match shp S o e with | some es => agEs P S args es | none => false) = true := h
  cases hs : shp S o e with
  | none => rw [hs] at h; exact nomatch h
  | some es => rw [hs] at h; exact ⟨es, rfl, h⟩
theorem ag_meth {o : Op} {b : ME} {args : MEs} (h : agE P S (.meth o b args) e = true) : ∃ b' es, mshp o e = some (b', es) ∧ (agE P S b b' && agEs P S args es) = true := by
  have h : (match mshp o e with | some (b', es) => agE P S b b' && agEs P S args es | none => false) = true := h
  cases hs : mshp o e with
  | none => rw [hs] at h; exact nomatch h
  | some es => rw [hs] at h; exact ⟨es.1, es.2, rfl, h⟩
theorem ag_dict {m : Bool} {ks : List Int} {vs : MEs} (h : agE P S (.dict m ks vs) e = true) : ∃ p, e = .Dict [] [] p ∧ ks = [] ∧ vs = .nil := by
  cases e <;> first
    | exact ff h
    | (rename_i a b p
       cases a with
       | cons _ _ => exact ff h
       | nil =>
         cases b with
         | cons _ _ => exact ff h
         | nil =>
           cases vs with
           | nil =>
             have h : (ks.isEmpty && true) = true := h
             simp only [Bool.and_true, List.isEmpty_iff] at h
             exact ⟨p, rfl, h, rfl⟩
           | cons _ _ =>
             have h : (ks.isEmpty && false) = true := h
             rw [Bool.and_false] at h; exact nomatch h)
theorem ag_and {es : MEs} (h : agE P S (.and es) e = true) : ∃ vs p, e = .BoolOp .And vs p ∧ agEs P S es vs = true := by
  cases e <;> first
    | exact ff h
    | (rename_i o vs p; cases o <;> first | exact ⟨_, _, rfl, h⟩ | exact ff h)
theorem ag_or {es : MEs} (h : agE P S (.or es) e = true) : ∃ vs p, e = .BoolOp .Or vs p ∧ agEs P S es vs = true := by
  cases e <;> first
    | exact ff h
    | (rename_i o vs p; cases o <;> first | exact ⟨_, _, rfl, h⟩ | exact ff h)
theorem ag_not {m : ME} (h : agE P S (.not m) e = true) : ∃ x p, e = .UnaryOp .Not x p ∧ agE P S m x = true := by
  cases e <;> first
    | exact ff h
    | (rename_i o x p; cases o <;> first | exact ⟨_, _, rfl, h⟩ | exact ff h)
theorem ag_call {f : Nat} {args : MEs} (h : agE P S (.call f args) e = true) : ∃ g p as pos, e = .Call (.Name g p) as [] pos ∧ (P.fns[f]? == some g && glob S g && noStar as && !as.isEmpty && agEs P S args as) = true := by
  cases e <;> first
    | exact ff h
    | (rename_i g as kw pos
       cases g <;> first
         | exact ff h
         | (cases kw with
            | nil => exact ⟨_, _, _, _, rfl, h⟩
            | cons _ _ => exact ff h))
theorem ag_comp {m : Bool} {elt : ME} {x : Tg} {it : MI} {ifs : MEs} (h : agE P S (.comp m elt x it ifs) e = true) : ∃ el tg iter fs scope pos, e = .ListComp el [⟨tg, iter, fs, 0⟩] scope pos ∧ ((match agTg S x tg with | some ys => compOk S scope ys | none => false) && okI x it && notSet iter && agI P S it iter && agEs P (S.comp scope) ifs fs && agE P (S.comp scope) elt el) = true := by
  cases e with
  | ListComp el gs scope pos =>
    cases gs with
    | nil => exact ff h
    | cons g gs =>
      obtain ⟨t, iter, fs, a⟩ := g
      cases a with
      | negSucc _ => exact ff h
      | ofNat n =>
        cases n with
        | succ _ => exact ff h
        | zero =>
          cases gs with
          | nil => exact ⟨_, _, _, _, _, _, rfl, h⟩
          | cons _ _ => exact ff h
  | _ => exact ff h
theorem agTg_inv {t : Tg} {tg : Expr} {ys : List Str} (h : agTg S t tg = some ys) : (∃ i y p, t = .one i ∧ tg = .Name y p ∧ ys = [y] ∧ S.vars[i]? = some y) ∨ ∃ i j y z p p' n1 pt, t = .two i j ∧ tg = .Tuple [.Name y p, .Name z p'] n1 pt ∧ ys = [y, z] ∧ S.vars[i]? = some y ∧ S.vars[j]? = some z := by
  unfold agTg at h
  split at h
  · obtain ⟨h1, h2⟩ := ite_some' h; exact .inl ⟨_, _, _, rfl, rfl, h2, h1⟩
  · obtain ⟨h1, h2⟩ := ite_some' h; exact .inr ⟨_, _, _, _, _, _, _, _, rfl, rfl, h2, h1.1, h1.2⟩
  · cases h
theorem ag_nil {es : List Expr} (h : agEs P S .nil es = true) : es = [] := List.isEmpty_iff.mp h
theorem ag_cons {m : ME} {ms : MEs} {es : List Expr} (h : agEs P S (.cons m ms) es = true) : ∃ e r, es = e :: r ∧ (agE P S m e && agEs P S ms r) = true := by
  cases es with
  | nil => exact ff h
  | cons e r => exact ⟨e, r, rfl, h⟩
theorem ag_iter {n : String} {ms : MEs} (h2 : (match iterArgs n S e with | some es => agEs P S ms es | none => false) = true) : ∃ f p args pos, e = .Call (.Name f p) args [] pos ∧ (f = Str.ofString n ∧ glob S f = true ∧ noStar args = true ∧ args.isEmpty = false) ∧ agEs P S ms args = true := by
  cases hr : iterArgs n S e with
  | none => rw [hr] at h2; exact nomatch h2
  | some es =>
    rw [hr] at h2
    have h2 : agEs P S ms es = true := h2
    cases e <;> first
      | exact nn hr
      | (rename_i g as kw pos
         cases g <;> first
           | exact nn hr
           | (cases kw with
              | nil => obtain ⟨h1, rfl⟩ := ite_some' hr; exact ⟨_, _, _, _, rfl, h1, h2⟩
              | cons _ _ => exact nn hr))
end
noncomputable def SpecMono (Φ : Spec) : Prop := ∀ f vs (Q Q' : Post) σ, Φ f vs Q σ → (∀ d σ', Q d σ' → Q' d σ') → Φ f vs Q' σ
structure Lnk (W : Wd) (A : Around) (P : Pg) (Φ : Spec) (Gc : Nat → V) : Prop where
  fn : ∀ f g, P.fns[f]? = some g → ∃ a o fd, W.mg g = some (.ref a) ∧ W.s₀.heap.get? a = some o ∧ o.data = .func fd ∧
    ∀ C ls σ s vs xs Q, C.W = W → C.A = A → Good C σ ls s → Reals s.heap (C.D σ) vs xs → Φ f xs Q σ → TrE C ls (call (.ref a) vs) (RV C Q) σ s
  gc : ∀ k x, P.gcs[k]? = some x → ∃ v, W.mg x = some v ∧ ∀ h D, Real h D v (Gc k)
  blt : Blt W
  mono : SpecMono Φ

/-- what an expression's walk is given -/
structure Sit (C : Cx) (S : Sc) (P : Pg) (Φ : Spec) (Gc : Nat → V) : Prop where
  R : Rm C
  of : S.Of C
  lnk : Lnk C.W C.A P Φ Gc

section
variable {C : Cx} {S : Sc} {P : Pg} {Φ : Spec} {Gc : Nat → V} {ls : Ls} {σ : View} {s : Shared}

theorem Sit.comp (T : Sit C S P Φ Gc) (hk : C.env.scope.kind = .function) {scope : Scope} {cl : List (Str × Addr)} {L a : Addr} {wr : List Addr} : Sit (C.comp scope cl L a wr) (S.comp scope) P Φ Gc :=
  ⟨⟨T.R.ok, T.R.hh, T.R.units⟩, comp_of T.of hk, T.lnk⟩
theorem Sit.more (T : Sit C S P Φ Gc) {wr : List Addr} : Sit (C.more wr) S P Φ Gc := ⟨⟨T.R.ok, T.R.hh, T.R.units⟩, ⟨T.of.names, T.of.vars⟩, T.lnk⟩

theorem isLoc_kind (h : isLoc S x = true) : (S.names.lookup x = some .local ∨ S.names.lookup x = some .cell ∨ S.names.lookup x = some .free) ∧ (x == ("__debug__" : Str)) = false ∧ (x == ("__classdict__" : Str)) = false := by
  unfold isLoc at h
  simp only [Bool.and_eq_true, Bool.not_eq_true'] at h
  refine ⟨?_, h.1.2, h.2⟩
  have h1 := h.1.1
  split at h1
  · rename_i e; exact .inl e
  · rename_i e; exact .inr (.inl e)
  · rename_i e; exact .inr (.inr e)
  · cases h1

theorem tr_var (T : Sit C S P Φ Gc) (G : Good C σ ls s) {i : Nat} {x : Str} {pos : Pos} {Q : Post} (hi : S.vars[i]? = some x) (hl : isLoc S x = true) (h : ∃ d, ls i = some d ∧ Q d σ) : TrE C ls (eval (.Name x pos) C.env) (RV C Q) σ s := by
  obtain ⟨d, hd, q⟩ := h
  obtain ⟨hk, hdb, hcd⟩ := isLoc_kind hl
  obtain ⟨v, hv, hr⟩ := G.fr.val i x d (by rw [T.of.vars]; exact hi) (by rw [kindOf_eq T.of]; exact hk) hd
  have fin : ∃ σ', Good C σ' ls s ∧ Step C.own s.heap σ s.heap σ' ∧ RV C Q v σ' s := ⟨σ, G, Step.refl _ _ _, d, hr, q⟩
  rcases hv with ⟨hloc, m, hm, e⟩ | ⟨hc | hc, c, hc', hcell⟩
  · exact wpAny_Name (wpAny_loadName_local G.fr.kind hloc hm e fin) hdb
  · exact wpAny_Name (wpAny_loadName_cell G.fr.kind hc hc' hcell fin) hdb
  · exact wpAny_Name (wpAny_loadName_free G.fr.kind hc hc' hcell fin hcd) hdb

theorem tr_lit (G : Good C σ ls s) {d : V} {c : Const} {k : Nat} {pos : Pos} {Q : Post} (h : litOk d c = true) (q : Q d σ) : TrE C ls (eval (.Constant c k pos) C.env) (RV C Q) σ s := by
  have no : ∀ {P : Prop}, false = true → P := fun h => nomatch h
  cases d with
  | none => cases c <;> first | exact no h | exact TrE.pure G ⟨_, .none, q⟩
  | bool a => cases c <;> first | exact no h | (have h : (a == _) = true := h; simp at h; subst h; exact TrE.pure G ⟨_, .bool _, q⟩)
  | int a => cases c <;> first | exact no h | (have h : (a == _) = true := h; simp at h; subst h; exact wpAny_Constant_int ⟨σ, G.toks _, Step.refl _ _ _, _, .int _ _, q⟩)
  | str a =>
    cases c <;> first
      | exact no h
      | (have h : (a == _ && PyData.strOk a && decide (a.cps.size ≤ 1000)) = true := h
         simp only [Bool.and_eq_true, beq_iff_eq, decide_eq_true_eq] at h
         obtain ⟨⟨rfl, h1⟩, h2⟩ := h
         exact PySem.Calls.Constant_str ⟨σ, G.toks _, Step.refl _ _ _, _, .str _ _ h1 (Nat.le_trans h2 (by decide)), q⟩)
  | _ => cases c <;> exact no h

theorem truthy_of {v : Value} {d : V} {b : Bool} {Q : Bool → Shared → Prop} {E : Value → Shared → Prop} {M : Model} {A : Around} {D : Addr → Prop} (r : Real s.heap D v d) (h : truthV d = some b) (q : Q b s) : wpAny M A (truthy v) Q E s := by
  unfold truthV at h
  split at h
  · cases r; cases h; exact fun _ _ _ => q
  · cases r; cases h; exact wpAny_truthy_bool q
  · cases h
theorem tr_truthy (G : Good C σ ls s) {v : Value} {d : V} {b : Bool} {Q : Bool → View → Shared → Prop} (r : Real s.heap (C.D σ) v d) (h : truthV d = some b) (q : Q b σ s) : TrE C ls (truthy v) Q σ s := truthy_of r h (TrE.end G q)

theorem tr_dict (G : Good C σ ls s) {pos : Pos} {m : Bool} {Q : Post} (hW : C.W.Ok) (h : if m then ∀ a, σ a = none → Q (.ref a) (σ.upd a (.dict false [])) else Q (.dct []) σ) : TrE C ls (eval (.Dict [] [] pos) C.env) (RV C Q) σ s := by
  cases m with
  | true =>
    simp only [if_true] at h
    refine TrE.newCell (c := .dict false []) G (wpAny_Dict_empty ⟨_, _, s.toks, rfl, rfl, fun b o e => Heap.get?_push_of_some _ e, Nat.le_refl _, #[], 0, Heap.get?_push_size _ rfl, by simp, by simp, .nil⟩) h
  | false =>
    simp only [Bool.false_eq_true, if_false] at h
    refine Gives.then (d := .dct []) (Gives.new G (o := dictObj #[] 0) ?_ (wpAny_Dict_empty ⟨rfl, s.toks, rfl⟩)) h
    exact .dct (Heap.get?_push_size _ rfl) (by simp) (by simp) (Nat.lt_of_lt_of_le hW.two G.larger) G.newAddr .nil
end
end Mine
end

section
open PySem PyProof.Rows
namespace Mine
section
variable {C : Cx} {S : Sc} {P : Pg} {Φ : Spec} {Gc : Nat → V} {ls : Ls} {σ : View} {s : Shared}

theorem tr_test_plain {e : Expr} (h : tplain e = true) {Q : Bool → View → Shared → Prop} (hv : TrE C ls (eval e C.env) (fun v σ' s' => ∃ d b, Real s'.heap (C.D σ') v d ∧ truthV d = some b ∧ Q b σ' s') σ s) :
    TrE C ls (isTrue e C.env (eval e C.env)) Q σ s := by
  have dflt : isTrue e C.env (eval e C.env) = (do let v ← eval e C.env; standAt e.pos; holding [v] (truthy v)) → TrE C ls (isTrue e C.env (eval e C.env)) Q σ s := by
    intro he
    rw [he]
    exact TrE.bind (TrE.mono hv fun v σ' s' G' _ ⟨d, b, r, hb, q⟩ => TrE.bind (TrE.standAt G' (TrE.holding (tr_truthy G' r hb q))))
  cases e <;> first
    | exact dflt rfl
    | exact ff h
    | skip
  · rename_i op x pos
    cases op <;> first | exact dflt rfl | exact ff h
  · rename_i l ops rs pos
    match ops, rs, h with
    | [op], [r], h =>
      have h : notSet r = true := h
      rw [isTrue_Compare1, markedBehindIn_of_false (notSet_marks h)]
      rw [eval_Compare1, markedBehindIn_of_false (notSet_marks h)] at hv
      have e : (do let a ← eval l C.env; let b ← holding [a] (eval r C.env); standAt pos; let c ← operate [a, b] (compareOp op a b); holding [c] (truthy c) : Sem Bool) =
          ((do let a ← eval l C.env; let b ← holding [a] (eval r C.env); standAt pos; operate [a, b] (compareOp op a b)) >>= fun c => holding [c] (truthy c)) := by
        simp only [bind_assoc]
      rw [e]
      exact TrE.bind (TrE.mono hv fun v σ' s' G' _ ⟨d, b, r, hb, q⟩ => TrE.holding (tr_truthy G' r hb q))

theorem shp_tplain {o : Op} {e : Expr} {es : List Expr} (h : shp S o e = some es) : tplain e = true := by
  cases shp_inv h <;> first | rfl | assumption
theorem mshp_tplain {o : Op} {e b : Expr} {es : List Expr} (h : mshp o e = some (b, es)) : tplain e = true := by
  obtain ⟨name, apos, pos, n, T, id, rfl, _⟩ := mshp_inv h; rfl

theorem callWith_fn (T : Sit C S P Φ Gc) {pos : Pos} {f : Nat} {g : Str} {args : List Expr} {Q : Post} (hf : P.fns[f]? = some g) (hn : args.isEmpty = false) (G : Good C σ ls s) {a : Addr} (ha : C.W.mg g = some (.ref a))
    (h : Ev C ls args (fun vs σ' s' => Good C σ' ls s' ∧ ∃ xs, Reals s'.heap (C.D σ') vs xs ∧ Φ f xs Q σ') σ s) : TrE C ls (callWith pos (.ref a) [] (args.map fun e => (false, eval e C.env)) []) (RV C Q) σ s := by
  obtain ⟨a', o, fd, h1, h2, h3, h4⟩ := T.lnk.fn f g hf
  rw [ha] at h1; cases h1
  have hs := spliced_ev G h
  have hsp : wpAny (model C.W.prog C.W.w) C.A (spliced (args.map fun e => (false, eval e C.env))) (fun vs s₁ => (s₁.heap.get? a = some o ∧ o.data = .func fd) ∧ wpAny (model C.W.prog C.W.w) C.A (call (.ref a) ([] ++ vs)) (fun a s' => ∃ σ', Good C σ' ls s' ∧ Step C.own s.heap σ s'.heap σ' ∧ RV C Q a σ' s') (fun _ _ => False) s₁) (fun _ _ => False) s :=
    wpAny_mono hs (fun vs s₁ ⟨σ₁, G₁, S₁, _, xs, rs, hφ⟩ => ⟨⟨G₁.stays _ _ h2, h3⟩, wpAny_mono (h4 C ls σ₁ s₁ vs xs Q rfl rfl G₁ rs hφ) (fun v s₂ ⟨σ₂, G₂, S₂, q⟩ => ⟨σ₂, G₂, S₁.trans S₂, q⟩) fun _ _ x => x⟩) fun _ _ x => x
  cases args with
  | nil => cases hn
  | cons e es => exact PySem.Calls.callWith_function (PySem.Calls.evalArgs_plain hsp)
end
end Mine
end

section
open PySem PyProof.Rows
namespace Mine
section
variable {C : Cx} {S : Sc} {P : Pg} {Φ : Spec} {Gc : Nat → V} {ls : Ls} {σ : View} {s : Shared}

theorem folded_plain {iter : Expr} {env : Env} (h : notSet iter = true) (x : Value) : foldedSetIterable iter env x = pure x := by
  unfold foldedSetIterable
  cases iter <;> first | rfl | exact ff h

/-- what a comprehension's walk is given -/
noncomputable def CompHyp (C : Cx) (ls : Ls) (scope : Scope) (t : Tg) (tgt iter elt : Expr) (ifs : List Expr) (fin : List V → View → List V → View → Prop) (σ : View) (s : Shared) : Prop :=
  wpAny (model C.W.prog C.W.w) C.A (eval iter C.env) (fun r s' => ∃ σ₁ s₁ us xs, Good C σ₁ ls s₁ ∧ Step C.own s.heap σ s₁.heap σ₁ ∧ Src C tgt (rpOf t) s₁ σ₁ us xs r s' ∧ xs.length ≤ big ∧ ∃ J : Nat → List V → View → Prop, J 0 [] (lockV σ₁ us) ∧
    (∀ cl L a wr k v acc σ₂ s₂, Good (C.comp scope cl L a wr) σ₂ (t.up v ls) s₂ → xs[k]? = some v → J k acc σ₂ → TrE (C.comp scope cl L a wr) (t.up v ls) (testsT ifs (C.comp scope cl L a wr).env) (fun ok σ₃ s₃ =>
      if ok = true then TrE (C.comp scope cl L a wr) (t.up v ls) (eval elt (C.comp scope cl L a wr).env) (fun w σ₄ s₄ => ∃ d, Real s₄.heap ((C.comp scope cl L a wr).D σ₄) w d ∧ J (k + 1) (acc ++ [d]) σ₄) σ₃ s₃ else J (k + 1) acc σ₃) σ₂ s₂) ∧
    (∀ acc σ₂, J xs.length acc σ₂ → fin us σ₁ acc σ₂)) (fun _ _ => False) s

/-- a comprehension's targets are its own names -/
theorem comp_asg (T : Sit C S P Φ Gc) (hk : C.env.scope.kind = .function) {scope : Scope} {cl : List (Str × Addr)} {L a : Addr} {wr : List Addr} {t : Tg} {tgt : Expr} {ys : List Str} (hc : compOk S scope ys = true) (hy : agTg S t tgt = some ys) : Asg (C.comp scope cl L a wr) tgt (rpOf t) t.up := by
  have hl : ∀ y ∈ ys, Stor (C.comp scope cl L a wr) y := fun y hm => by
    refine .inl ?_
    show (relabel scope C.env).names.lookup y = some .local
    rw [comp_names T.of hk, relab_lookup, (compOk_parts hc).2.1 y hm]
    rfl
  have hv : (C.comp scope cl L a wr).vars = S.vars := T.of.vars
  rcases agTg_inv hy with ⟨i, y, p, rfl, rfl, rfl, h1⟩ | ⟨i, j, y, z, p, p', n1, pt, rfl, rfl, rfl, h1, h2⟩
  · exact asg1 (by rw [hv]; exact h1) (hl y (.head _))
  · exact asg2 T.R.hh (by rw [hv]; exact h1) (hl y (.head _)) (by rw [hv]; exact h2) (hl z (.tail _ (.head _)))
theorem tg_idx {t : Tg} {tgt : Expr} {ys : List Str} (hy : agTg S t tgt = some ys) : ∀ z ∈ ys, ∃ i ∈ t.idx, S.vars[i]? = some z := by
  intro z hz
  rcases agTg_inv hy with ⟨i, y, p, rfl, rfl, rfl, h1⟩ | ⟨i, j, y, z', p, p', n1, pt, rfl, rfl, rfl, h1, h2⟩
  · cases hz with
    | head => exact ⟨i, .head _, h1⟩
    | tail _ h => cases h
  · cases hz with
    | head => exact ⟨i, .head _, h1⟩
    | tail _ h =>
      cases h with
      | head => exact ⟨j, .tail _ (.head _), h2⟩
      | tail _ h => cases h

theorem comp_walk (T : Sit C S P Φ Gc) (G : Good C σ ls s) {scope : Scope} {t : Tg} {ys : List Str} {pos : Pos} {tgt iter elt : Expr} {ifs : List Expr} {fin : List V → View → List V → View → Prop} (hc : compOk S scope ys = true) (hy : agTg S t tgt = some ys) (hns : notSet iter = true)
    (h : CompHyp C ls scope t tgt iter elt ifs fin σ s) {use : Option (Value → Sem Unit)} {Q : Value → Shared → Prop}
    (hend : ∀ (σ₁ : View) (s₁ : Shared) us acc σ₂ L a (s₄ : Shared), Step C.own s.heap σ s₁.heap σ₁ → fin us σ₁ acc σ₂ → (∃ m, s₄.heap.Ns L m) → s₁.heap.objs.size ≤ L → (∀ b, C.own b ∨ C.B b → b ≠ L) →
      (Good (C.more [L]) (unlockV σ₁ us σ₂) ls s₄ ∧ Step C.own s₁.heap σ₁ s₄.heap (unlockV σ₁ us σ₂) ∧ Real s₄.heap ((C.more [L]).D (unlockV σ₁ us σ₂)) (.ref a) (.lst acc)) →
      (Good (C.more [L]) ((unlockV σ₁ us σ₂).upd a (.list false acc)) ls s₄ ∧ Step C.own s₁.heap σ₁ s₄.heap ((unlockV σ₁ us σ₂).upd a (.list false acc)) ∧ unlockV σ₁ us σ₂ a = none) →
      compPost (model C.W.prog C.W.w) C.A (fun _ _ => False) use Q (.ref a) L (.ok .next) s₄) :
    wpAny (model C.W.prog C.W.w) C.A (comprehension (.ListComp elt [⟨tgt, iter, ifs, 0⟩] scope pos) scope C.env (firstIterPos [⟨tgt, iter, ifs, 0⟩] pos) (newList []) (firstAsync [⟨tgt, iter, ifs, 0⟩]) (firstIter [⟨tgt, iter, ifs, 0⟩] C.env) use) Q (fun _ _ => False) s := by
  obtain ⟨hk, hyl, hn⟩ := compOk_parts hc
  obtain ⟨cl, hcl⟩ := closOf_some C.env.cells scope.names [] fun n hm => G.fr.has n (by rw [kindOf_eq T.of]; exact (hn n _ hm).2.2.1 rfl)
  refine wpAny_comprehension_free (use := use) rfl (folded_plain hns) (closureFor_of hcl) hk (fun x hx hl => by have := (hn x.1 x.2 hx).2.1; rw [hl] at this; exact this) ?_
  show wpAny _ _ (eval iter C.env) _ _ s
  refine wpAny_mono h (fun r s' ⟨σ₁, s₁, us, xs, G₁, S₁, src, hbig, J, hJ, hturn, hfin⟩ => src _ fun it wr h₂ tk fp Pp St I st k₂ hz₂ => ?_) fun _ _ x => x
  refine comp_loop T.R T.of G₁ I st k₂ hz₂ hbig hc (tg_idx hy) hcl (fun L a => comp_asg T G.fr.kind hc hy) J hJ (RR := fun acc L => compPost (model C.W.prog C.W.w) C.A (fun _ _ => False) use Q acc L) (fun L a k v acc σ₂ s₂ G₂ hv hJ₂ => ?_) fun L a vs n acc σ₂ s₃ h₄ tk hL ha hw haL Gr S₃ hav hvz rs hns3 k hz hJf => ?_
  · exact hturn cl L a wr k v acc σ₂ s₂ G₂ hv hJ₂
  · obtain ⟨e1, e2, e3⟩ := comp_end (tk := tk) G₁ hL ha hw haL Gr S₃ hav hvz rs hns3 k hz
    exact hend σ₁ s₁ us acc σ₂ L a _ S₁ (hfin acc σ₂ hJf) e3 hL (fun b hb => Nat.ne_of_lt (Nat.lt_of_lt_of_le (G₁.toGround.lt (.inr hb)) hL)) e1 e2

theorem comp_value (T : Sit C S P Φ Gc) (G : Good C σ ls s) {m : Bool} {scope : Scope} {t : Tg} {ys : List Str} {pos : Pos} {tgt iter elt : Expr} {ifs : List Expr} {Q : Post} (hc : compOk S scope ys = true) (hy : agTg S t tgt = some ys) (hns : notSet iter = true)
    (h : CompHyp C ls scope t tgt iter elt ifs (fun us σ₁ acc σ₂ => if m = true then ∀ a, unlockV σ₁ us σ₂ a = none → Q (.ref a) ((unlockV σ₁ us σ₂).upd a (.list false acc)) else Q (.lst acc) (unlockV σ₁ us σ₂)) σ s) :
    TrE C ls (eval (.ListComp elt [⟨tgt, iter, ifs, 0⟩] scope pos) C.env) (RV C Q) σ s := by
  rw [eval_ListComp]
  refine comp_walk T G hc hy hns h fun σ₁ s₁ us acc σ₂ L a s₄ S₁ hf hL hLs hne e1 e2 => ⟨hL.choose, hL.choose_spec, fun h' hs' => ?_⟩
  have nw : ∀ b, C.own b ∨ C.B b → b ∉ [L] := fun b hb h => by simp at h; exact hne b hb h
  have kk : ∀ b o, b ∉ [L] → s₄.heap.get? b = some o → h'.get? b = some o := fun b o hb e => hs'.extBut b o (by simpa using hb) e
  have Lv : ∀ τ : View, Leaves s₄.heap ((C.more [L]).D τ) h' (C.D τ) := fun τ b o e hd => ⟨kk b o (fun h => hd ((D_more b).mpr (.inr h))) e, fun h => hd ((D_more b).mpr (.inl h))⟩
  have St : ∀ τ : View, Step C.own s₁.heap σ₁ s₄.heap τ → Step C.own s.heap σ h' τ := fun τ S₂ => by
    have hLn : ∀ b o, s₁.heap.get? b = some o → b ∉ [L] := fun b o e h => by simp at h; exact absurd (Heap.lt_size e) (Nat.not_lt.mpr (by rw [h]; exact hLs))
    exact S₁.trans ⟨fun b o e hr ho => kk b o (hLn b o e) (S₂.keep b o e hr ho), by rw [hs'.1]; exact S₂.size, S₂.grow, S₂.ro⟩
  cases m with
  | false =>
    simp only [Bool.false_eq_true, if_false] at hf
    exact ⟨_, Good.endL (tk := s₄.toks) G e1.1 nw (Nat.le_of_eq hs'.1.symm) kk, St _ e1.2.1, .lst acc, e1.2.2.leaves (Lv _), hf⟩
  | true =>
    simp only [if_true] at hf
    exact ⟨_, Good.endL (tk := s₄.toks) G e2.1 nw (Nat.le_of_eq hs'.1.symm) kk, St _ e2.2.1, .ref a, .ref a, hf a e2.2.2⟩

/-- statements: on, or back with a value -/
noncomputable def FlowOk (C : Cx) (Q : View → Ls → Prop) (R : Post) (f : Flow) (σ : View) (s : Shared) : Prop := match f with
  | .next => ∃ ls, Good C σ ls s ∧ Q σ ls
  | .ret v => ∃ ls x, Good C σ ls s ∧ Real s.heap (C.D σ) v x ∧ R x σ
  | _ => False
noncomputable def TrS (C : Cx) (t : Sem Flow) (Q : View → Ls → Prop) (R : Post) (σ : View) (s : Shared) : Prop :=
  wpAny (model C.W.prog C.W.w) C.A t (fun f s' => ∃ σ', Step C.own s.heap σ s'.heap σ' ∧ FlowOk C Q R f σ' s') (fun _ _ => False) s

theorem comp_assign (T : Sit C S P Φ Gc) (G : Good C σ ls s) {m : Bool} {scope : Scope} {x : Str} {t : Tg} {ys : List Str} {ti : Nat} {pt pos spos : Pos} {tgt iter elt : Expr} {ifs : List Expr} {Q : View → Ls → Prop} {Rt : Post} (hc : compOk S scope ys = true) (hy : agTg S t tgt = some ys) (hns : notSet iter = true)
    (ht : S.vars[ti]? = some x) (hk : C.env.kindOf x = some .local) (hsw : swapsWith (.ListComp elt [⟨tgt, iter, ifs, 0⟩] scope pos) (some (.Name x pt)) spos.line C.env = pure true)
    (h : CompHyp C ls scope t tgt iter elt ifs (fun us σ₁ acc σ₂ => if m = true then ∀ a, unlockV σ₁ us σ₂ a = none → Q ((unlockV σ₁ us σ₂).upd a (.list false acc)) (ls.set ti (.ref a)) else Q (unlockV σ₁ us σ₂) (ls.set ti (.lst acc))) σ s) :
    TrS C (exec (.Assign [.Name x pt] (.ListComp elt [⟨tgt, iter, ifs, 0⟩] scope pos) spos) C.env) Q Rt σ s := by
  unfold TrS
  rw [exec_Assign_Name_used _ _ _ _ hsw]
  refine wpAny_bind (wpAny_standAt (wpAny_bind ?_))
  show wpAny _ C.A (do let _ ← comprehension (.ListComp elt [⟨tgt, iter, ifs, 0⟩] scope pos) scope C.env (firstIterPos [⟨tgt, iter, ifs, 0⟩] pos) (newList []) (firstAsync [⟨tgt, iter, ifs, 0⟩]) (firstIter [⟨tgt, iter, ifs, 0⟩] C.env) (some (assign (.Name x pt) C.env))) _ _ s
  refine wpAny_bind (comp_walk (use := some (assign (.Name x pt) C.env)) (Q := fun _ s' => wpAny (model C.W.prog C.W.w) C.A (pure ()) (fun _ s'' => wpAny (model C.W.prog C.W.w) C.A (pure Flow.next) (fun f s' => ∃ σ', Step C.own s.heap σ s'.heap σ' ∧ FlowOk C Q Rt f σ' s') (fun _ _ => False) s'') (fun _ _ => False) s') T G hc hy hns h fun σ₁ s₁ us acc σ₂ L a s₄ S₁ hf hL hLs hne e1 e2 => ?_)
  have nw : ∀ b, C.own b ∨ C.B b → b ∉ [L] := fun b hb h => by simp at h; exact hne b hb h
  have main : ∀ (τ : View) (d : V), Good (C.more [L]) τ ls s₄ → Step C.own s₁.heap σ₁ s₄.heap τ → Real s₄.heap ((C.more [L]).D τ) (.ref a) d → Q τ (ls.set ti d) →
      wpAny (model C.W.prog C.W.w) C.A (assign (.Name x pt) C.env (.ref a)) (fun _ s'' => ∃ m, s''.heap.Ns L m ∧ ∀ h', Heap.SameBut L s''.heap h' → wpAny (model C.W.prog C.W.w) C.A (pure ()) (fun _ s'' => wpAny (model C.W.prog C.W.w) C.A (pure Flow.next) (fun f s' => ∃ σ', Step C.own s.heap σ s'.heap σ' ∧ FlowOk C Q Rt f σ' s') (fun _ _ => False) s'') (fun _ _ => False) { s'' with heap := h' }) (fun _ _ => False) s₄ := by
    intro τ d Gm Sm rd hq
    refine wpAny_assign_Name ?_
    refine store (C := C.more [L]) (i := ti) (d := d) Gm (by rw [more_vars, T.of.vars]; exact ht) (.inl hk) rd fun s₅ G₅ S₅ => ?_
    obtain ⟨m', hm'⟩ := hL
    refine ⟨m', hm'.at' fun o e => S₅.keep L o e (Rw.of_none (Gm.apart L (.inr (.inr (.head _))))) fun h => Gm.apart2 L h (.inr (.head _)), fun h' hs' => ?_⟩
    have kk : ∀ b o, b ∉ [L] → s₅.heap.get? b = some o → h'.get? b = some o := fun b o hb e => hs'.extBut b o (by simpa using hb) e
    have hLn : ∀ b o, s₁.heap.get? b = some o → b ∉ [L] := fun b o e h => by simp at h; exact absurd (Heap.lt_size e) (Nat.not_lt.mpr (by rw [h]; exact hLs))
    have S₆ := Sm.trans S₅
    refine wpAny_pure (wpAny_pure ⟨τ, S₁.trans ⟨fun b o e hr ho => kk b o (hLn b o e) (S₆.keep b o e hr ho), by rw [hs'.1]; exact S₆.size, S₆.grow, S₆.ro⟩, ls.set ti d, ?_, hq⟩)
    exact Good.endL (tk := s₅.toks) G G₅ nw (Nat.le_of_eq hs'.1.symm) kk
  show wpAny _ _ _ _ _ _
  cases m with
  | false =>
    simp only [Bool.false_eq_true, if_false] at hf
    exact main _ _ e1.1 e1.2.1 e1.2.2 hf
  | true =>
    simp only [if_true] at hf
    exact main _ _ e2.1 e2.2.1 (.ref a) (hf a e2.2.2)
end
end Mine
end

section
open PySem PyProof.Rows
set_option linter.unusedVariables false
namespace Mine
theorem ex_mono {Q Q' : Post} {σ : View} {o : Op} {vs : List V} (h : ∃ d, pureOp o σ vs = some d ∧ Q d σ) (k : ∀ d σ', Q d σ' → Q' d σ') : ∃ d, pureOp o σ vs = some d ∧ Q' d σ := let ⟨d, h1, h2⟩ := h; ⟨d, h1, k _ _ h2⟩
theorem prim_mono {o : Op} {vs : List V} {Q Q' : Post} {σ : View} (h : prim o vs Q σ) (k : ∀ d σ', Q d σ' → Q' d σ') : prim o vs Q' σ := by
  cases o <;> first
    | exact ex_mono h k
    | (simp only [prim] at h ⊢; split at h <;> first
        | exact h.elim
        | (obtain ⟨xs, h1, h2⟩ := h; exact ⟨xs, h1, fun a ha => k _ _ (h2 a ha)⟩)
        | (obtain ⟨xs, h1, h2, h3⟩ := h; exact ⟨xs, h1, h2, k _ _ h3⟩)
        | (obtain ⟨xs, x, h1, h2⟩ := h; exact ⟨xs, x, h1, k _ _ h2⟩)
        | (obtain ⟨xs, x, h1, h2, h3⟩ := h; exact ⟨xs, x, h1, h2, k _ _ h3⟩)
        | (obtain ⟨xs, h1, h2⟩ := h; exact ⟨xs, h1, k _ _ h2⟩))
    | exact ⟨h.1, fun a ha => k _ _ (h.2 a ha)⟩

section
variable {Φ : Spec} {G : Nat → V} (hΦ : SpecMono Φ)
mutual
theorem ewp_mono (hΦ : SpecMono Φ) : ∀ (m : ME) {ls : Ls} {Q Q' : Post} {σ : View}, ewp Φ G ls m Q σ → (∀ d σ', Q d σ' → Q' d σ') → ewp Φ G ls m Q' σ
  | .var i, ls, Q, Q', σ, h, k => by obtain ⟨d, h1, h2⟩ := h; exact ⟨d, h1, k _ _ h2⟩
  | .lit d, ls, Q, Q', σ, h, k => k _ _ h
  | .gcon n, ls, Q, Q', σ, h, k => k _ _ h
  | .op o args, ls, Q, Q', σ, h, k => by
    exact ewps_mono hΦ args h fun vs σ' h' => prim_mono h' k
  | .meth o b args, ls, Q, Q', σ, h, k => by
    exact ewp_mono hΦ b h fun x σ₁ ⟨h1, h2⟩ => ⟨h1, ewps_mono hΦ args h2 fun vs σ' h' => prim_mono h' k⟩
  | .dict m ks vs, ls, Q, Q', σ, h, k => by
    refine ewps_mono hΦ vs h fun vv σ' ⟨h1, h2, h3⟩ => ⟨h1, h2, ?_⟩
    cases m with
    | true => exact fun a ha => k _ _ (h3 a ha)
    | false => exact k _ _ h3
  | .and es, ls, Q, Q', σ, h, k => ewpAnd_mono hΦ es h k
  | .or es, ls, Q, Q', σ, h, k => ewpOr_mono hΦ es h k
  | .not m, ls, Q, Q', σ, h, k => by
    exact ewp_mono hΦ m h fun d σ' ⟨b, h1, h2⟩ => ⟨b, h1, k _ _ h2⟩
  | .cmp2 o1 o2 a b c, ls, Q, Q', σ, h, k => by
    refine ewp_mono hΦ a h fun x σ₁ h1 => ewp_mono hΦ b h1 fun y σ₂ h2 => prim_mono h2 fun r σ₃ ⟨t, h3, h4⟩ => ⟨t, h3, ?_⟩
    cases t with
    | true => exact ewp_mono hΦ c h4 fun z σ₄ h5 => prim_mono h5 k
    | false => exact k _ _ h4
  | .call f args, ls, Q, Q', σ, h, k => by
    exact ewps_mono hΦ args h fun vs σ' h' => hΦ _ _ _ _ _ h' k
  | .comp m elt x it ifs, ls, Q, Q', σ, h, k => by
    refine ewpI_mono hΦ it h fun xs u σ₁ ⟨h0, I, h1, h2, h3⟩ => ⟨h0, I, h1, h2, fun acc σ₂ h4 => ?_⟩
    have := h3 acc σ₂ h4
    cases m with
    | true => exact fun a ha => k _ _ (this a ha)
    | false => exact k _ _ this
  | .frz m, ls, Q, Q', σ, h, k => by
    refine ewp_mono hΦ m h fun d σ' ⟨a, h1, h2⟩ => ⟨a, h1, ?_⟩
    rcases h2 with ⟨xs, e, q⟩ | ⟨es, e, q⟩
    · exact .inl ⟨xs, e, k _ _ q⟩
    · exact .inr ⟨es, e, k _ _ q⟩
theorem ewps_mono (hΦ : SpecMono Φ) : ∀ (ms : MEs) {ls : Ls} {Q Q' : List V → View → Prop} {σ : View}, ewps Φ G ls ms Q σ → (∀ vs σ', Q vs σ' → Q' vs σ') → ewps Φ G ls ms Q' σ
  | .nil, ls, Q, Q', σ, h, k => k _ _ h
  | .cons m ms, ls, Q, Q', σ, h, k => by
    exact ewp_mono hΦ m h fun d σ' h' => ewps_mono hΦ ms h' fun vs σ'' h'' => k _ _ h''
theorem ewpAnd_mono (hΦ : SpecMono Φ) : ∀ (ms : MEs) {ls : Ls} {Q Q' : Post} {σ : View}, ewpAnd Φ G ls ms Q σ → (∀ d σ', Q d σ' → Q' d σ') → ewpAnd Φ G ls ms Q' σ
  | .nil, ls, Q, Q', σ, h, k => by simp [ewpAnd] at h
  | .cons m .nil, ls, Q, Q', σ, h, k => by
    simp only [ewpAnd] at h ⊢
    exact ewp_mono hΦ m h k
  | .cons m (.cons m2 ms), ls, Q, Q', σ, h, k => by
    simp only [ewpAnd] at h ⊢
    refine ewp_mono hΦ m h fun d σ' ⟨b, h1, h2⟩ => ⟨b, h1, ?_⟩
    cases b with
    | true => exact ewpAnd_mono hΦ (.cons m2 ms) h2 k
    | false => exact k _ _ h2
theorem ewpOr_mono (hΦ : SpecMono Φ) : ∀ (ms : MEs) {ls : Ls} {Q Q' : Post} {σ : View}, ewpOr Φ G ls ms Q σ → (∀ d σ', Q d σ' → Q' d σ') → ewpOr Φ G ls ms Q' σ
  | .nil, ls, Q, Q', σ, h, k => by simp [ewpOr] at h
  | .cons m .nil, ls, Q, Q', σ, h, k => by
    simp only [ewpOr] at h ⊢
    exact ewp_mono hΦ m h k
  | .cons m (.cons m2 ms), ls, Q, Q', σ, h, k => by
    simp only [ewpOr] at h ⊢
    refine ewp_mono hΦ m h fun d σ' ⟨b, h1, h2⟩ => ⟨b, h1, ?_⟩
    cases b with
    | false => exact ewpOr_mono hΦ (.cons m2 ms) h2 k
    | true => exact k _ _ h2
theorem ewpI_mono (hΦ : SpecMono Φ) : ∀ (it : MI) {ls : Ls} {Q Q' : List V → List V → View → Prop} {σ : View}, ewpI Φ G ls it Q σ → (∀ xs us σ', Q xs us σ' → Q' xs us σ') → ewpI Φ G ls it Q' σ
  | .seq m, ls, Q, Q', σ, h, k => ewp_mono hΦ m h fun d σ' ⟨xs, h1, h2⟩ => ⟨xs, h1, k _ _ _ h2⟩
  | .range ms, ls, Q, Q', σ, h, k => ewps_mono hΦ ms h fun vs σ' ⟨xs, h1, h2⟩ => ⟨xs, h1, k _ _ _ h2⟩
  | .enum ms, ls, Q, Q', σ, h, k => ewps_mono hΦ ms h fun vs σ' ⟨xs, h1, h2⟩ => ⟨xs, h1, k _ _ _ h2⟩
end
end
end Mine
end

section
open PySem PyProof.Rows
set_option linter.unusedVariables false
set_option maxHeartbeats 8000000
namespace Mine
section
variable {P : Pg} {Φ : Spec} {Gc : Nat → V}

theorem callWith_argsW {C : Cx} {ls : Ls} {σ : View} {s : Shared} {pos : Pos} {f : Value} {args : List Expr} {K : List Value → View → Shared → Prop} {POST : Value → Shared → Prop} (hk : (∃ id, f = .builtin id) ∨ ∃ T, f = .type T) (hn : args.isEmpty = false) (G : Good C σ ls s)
    (h : Ev C ls args K σ s) (hK : ∀ vs σ' s', Good C σ' ls s' → Step C.own s.heap σ s'.heap σ' → K vs σ' s' → wpAny (model C.W.prog C.W.w) C.A (call f vs) POST (fun _ _ => False) s') :
    wpAny (model C.W.prog C.W.w) C.A (callWith pos f [] (args.map fun e => (false, eval e C.env)) []) POST (fun _ _ => False) s := by
  have hs := spliced_ev G h
  have hsp : wpAny (model C.W.prog C.W.w) C.A (spliced (args.map fun e => (false, eval e C.env))) (fun vs s₁ => wpAny (model C.W.prog C.W.w) C.A (call f ([] ++ vs)) POST (fun _ _ => False) s₁) (fun _ _ => False) s :=
    wpAny_mono hs (fun vs s₁ ⟨σ₁, G₁, S₁, h₁⟩ => hK vs σ₁ s₁ G₁ S₁ h₁) fun _ _ x => x
  have hp : (args.map fun e => ((false : Bool), eval e C.env)).any (·.1) = false := by simp
  cases args with
  | nil => cases hn
  | cons e es =>
    have hev : wpAny (model C.W.prog C.W.w) C.A (evalArgs f true ((e :: es).map fun e => ((false : Bool), eval e C.env)) []) (fun a s₁ => wpAny (model C.W.prog C.W.w) C.A (call f ([] ++ a.pos) a.kw) POST (fun _ _ => False) s₁) (fun _ _ => False) s :=
      PySem.Calls.evalArgs_plain hsp
    rcases hk with ⟨id, rfl⟩ | ⟨T, rfl⟩
    · exact PySem.Calls.callWith_builtin hp hev
    · exact PyProof.Rows.callWith_type hp hev
theorem tests_false (env : Env) : ∀ (r : List Expr), (forIn r false fun c r => if r = true then do let ok ← isTrue c env (eval c env); pure (ForInStep.yield ok) else pure (ForInStep.yield r) : Sem Bool) = pure false
  | [] => rfl
  | e :: r => by
    rw [List.forIn_cons]
    simp only [Bool.false_eq_true, if_false, pure_bind]
    exact tests_false env r
theorem testsT_cons (e : Expr) (r : List Expr) (env : Env) : testsT (e :: r) env = (do let ok ← isTrue e env (eval e env); if ok = true then testsT r env else pure false) := by
  unfold testsT
  rw [List.forIn_cons]
  simp only [if_true, bind_assoc, pure_bind]
  congr 1
  funext ok
  cases ok
  · simp only [Bool.false_eq_true, if_false]; exact tests_false env r
  · rfl

theorem isinst_types {S : Sc} {o : Op} {e : Expr} {es : List Expr} (h : shp S o e = some es) : ∀ t, o = .isinst t → t ∈ types := by
  rintro t rfl
  cases shp_inv h with
  | bin _ _ _ _ h1 => exact nn h1
  | cmp _ _ _ _ h1 _ => exact nn h1
  | inst f p t' x y py pos ho hc => cases ho; exact hc.2.2.2.2.1
  | call _ _ _ _ _ _ h1 _ => exact nn h1
  | neg _ _ h1 => cases h1
  | sl11 _ _ _ _ _ h1 => cases h1
  | sl10 _ _ _ _ h1 => cases h1
  | sl01 _ _ _ _ h1 => cases h1
  | item _ _ _ h1 => cases h1
  | tup _ _ _ h1 _ => cases h1
  | lst _ _ h1 _ => rcases h1 with h1 | h1 <;> cases h1
theorem mshp_isinst {o : Op} {e b : Expr} {es : List Expr} (h : mshp o e = some (b, es)) : ∀ t, o = .isinst t → t ∈ types := by
  rintro t rfl
  obtain ⟨name, apos, pos, n, T, id, rfl, h, _⟩ := mshp_inv h
  exact nn h

/-- a loop's source -/
noncomputable def SrcAt (C : Cx) (ls : Ls) (t : Tg) (tgt iter : Expr) (Q : List V → List V → View → Prop) (σ : View) (s : Shared) : Prop :=
  wpAny (model C.W.prog C.W.w) C.A (eval iter C.env) (fun r s' => ∃ σ₁ s₁ us xs, Good C σ₁ ls s₁ ∧ Step C.own s.heap σ s₁.heap σ₁ ∧ Src C tgt (rpOf t) s₁ σ₁ us xs r s' ∧ Q xs us σ₁) (fun _ _ => False) s

noncomputable def SndE (P : Pg) (Φ : Spec) (Gc : Nat → V) (m : ME) : Prop := ∀ {C : Cx} {S : Sc} {ls : Ls} {σ : View} {s : Shared} {e : Expr} {Q : Post}, Sit C S P Φ Gc → agE P S m e = true → Good C σ ls s → ewp Φ Gc ls m Q σ → TrE C ls (eval e C.env) (RV C Q) σ s
noncomputable def SndT (P : Pg) (Φ : Spec) (Gc : Nat → V) (m : ME) : Prop := ∀ {C : Cx} {S : Sc} {ls : Ls} {σ : View} {s : Shared} {e : Expr} {Q : Bool → View → Prop}, Sit C S P Φ Gc → agE P S m e = true → Good C σ ls s → ewp Φ Gc ls m (fun d σ' => ∃ b, truthV d = some b ∧ Q b σ') σ → TrE C ls (isTrue e C.env (eval e C.env)) (fun b σ' _ => Q b σ') σ s
noncomputable def SndEs (P : Pg) (Φ : Spec) (Gc : Nat → V) (ms : MEs) : Prop := ∀ {C : Cx} {S : Sc} {ls : Ls} {σ : View} {s : Shared} {es : List Expr} {pre : List Value} {xs : List V} {Q : List V → View → Prop}, Sit C S P Φ Gc → agEs P S ms es = true → Good C σ ls s → Reals s.heap (C.D σ) pre xs → ewps Φ Gc ls ms (fun ys σ' => Q (xs ++ ys) σ') σ →
    Ev C ls es (fun vs σ' s' => Good C σ' ls s' ∧ ∃ zs, Reals s'.heap (C.D σ') (pre ++ vs) zs ∧ Q zs σ') σ s
noncomputable def SndAnd (P : Pg) (Φ : Spec) (Gc : Nat → V) (ms : MEs) : Prop := ∀ {C : Cx} {S : Sc} {ls : Ls} {σ : View} {s : Shared} {es : List Expr} {pos : Pos} {Q : Post}, Sit C S P Φ Gc → agEs P S ms es = true → Good C σ ls s → ewpAnd Φ Gc ls ms Q σ → TrE C ls (boolOp pos .And (evalEach es C.env)) (RV C Q) σ s
noncomputable def SndOr (P : Pg) (Φ : Spec) (Gc : Nat → V) (ms : MEs) : Prop := ∀ {C : Cx} {S : Sc} {ls : Ls} {σ : View} {s : Shared} {es : List Expr} {pos : Pos} {Q : Post}, Sit C S P Φ Gc → agEs P S ms es = true → Good C σ ls s → ewpOr Φ Gc ls ms Q σ → TrE C ls (boolOp pos .Or (evalEach es C.env)) (RV C Q) σ s
noncomputable def SndTand (P : Pg) (Φ : Spec) (Gc : Nat → V) (ms : MEs) : Prop := ∀ {C : Cx} {S : Sc} {ls : Ls} {σ : View} {s : Shared} {es : List Expr} {Q : Bool → View → Prop}, Sit C S P Φ Gc → agEs P S ms es = true → Good C σ ls s → ewpAnd Φ Gc ls ms (fun d σ' => ∃ b, truthV d = some b ∧ Q b σ') σ → TrE C ls (allTrue .And es C.env) (fun b σ' _ => Q b σ') σ s
noncomputable def SndTor (P : Pg) (Φ : Spec) (Gc : Nat → V) (ms : MEs) : Prop := ∀ {C : Cx} {S : Sc} {ls : Ls} {σ : View} {s : Shared} {es : List Expr} {Q : Bool → View → Prop}, Sit C S P Φ Gc → agEs P S ms es = true → Good C σ ls s → ewpOr Φ Gc ls ms (fun d σ' => ∃ b, truthV d = some b ∧ Q b σ') σ → TrE C ls (allTrue .Or es C.env) (fun b σ' _ => Q b σ') σ s
noncomputable def SndIfs (P : Pg) (Φ : Spec) (Gc : Nat → V) (ms : MEs) : Prop := ∀ {C : Cx} {S : Sc} {ls : Ls} {σ : View} {s : Shared} {es : List Expr} {Q : Bool → View → Prop}, Sit C S P Φ Gc → agEs P S ms es = true → Good C σ ls s → ewpIfs Φ Gc ls ms Q σ → TrE C ls (testsT es C.env) (fun b σ' _ => Q b σ') σ s
noncomputable def SndI (P : Pg) (Φ : Spec) (Gc : Nat → V) (it : MI) : Prop := ∀ {C : Cx} {S : Sc} {ls : Ls} {σ : View} {s : Shared} {e : Expr} {t : Tg} {tgt : Expr} {ys : List Str} {Q : List V → List V → View → Prop}, Sit C S P Φ Gc → agTg S t tgt = some ys → okI t it = true → agI P S it e = true → Good C σ ls s → ewpI Φ Gc ls it Q σ → SrcAt C ls t tgt e Q σ s
theorem c_e_var {i : Nat}  : SndE P Φ Gc (.var i) := by
    intro C S ls σ s e Q T h G hw
    replace h := ag_var h; obtain ⟨x, p, rfl, h⟩ := h
    simp only [Bool.and_eq_true, beq_iff_eq] at h
    exact tr_var T G h.1 h.2 hw
theorem c_e_lit {d : V}  : SndE P Φ Gc (.lit d) := by
    intro C S ls σ s e Q T h G hw
    replace h := ag_lit h; obtain ⟨c, k, p, rfl, h⟩ := h
    exact tr_lit G h hw
theorem c_e_gcon {k : Nat}  : SndE P Φ Gc (.gcon k) := by
    intro C S ls σ s e Q T h G hw
    exact ff h
theorem c_e_op {o : Op} {args : MEs} (ih0 : SndEs P Φ Gc args) : SndE P Φ Gc (.op o args) := by
    intro C S ls σ s e Q T h G hw
    replace h := ag_op h; obtain ⟨es, hs, h⟩ := h
    refine shp_sound T.R T.lnk.blt T.of hs G (Ev.mono (ih0 (pre := []) (xs := []) (Q := fun zs σ' => prim o zs Q σ') T h G .nil hw) fun vs σ' s' ⟨G', zs, rs, hp⟩ u v => ?_)
    exact prim_sound T.R G' u v rs hp (isinst_types hs)
theorem c_e_meth {o : Op} {b : ME} {args : MEs} (ih0 : SndE P Φ Gc b) (ih1 : SndEs P Φ Gc args) : SndE P Φ Gc (.meth o b args) := by
    intro C S ls σ s e Q T h G hw
    replace h := ag_meth h; obtain ⟨b', es, hs, h⟩ := h
    simp only [Bool.and_eq_true] at h
    refine mshp_sound T.R hs (TrE.mono (ih0 T h.1 G hw) fun ov σ₁ s₁ G₁ _ ⟨x, r, hok, hw₁⟩ => ⟨x, r, hok, ?_⟩)
    refine Ev.mono (ih1 (pre := [ov]) (xs := [x]) (Q := fun zs σ' => prim o zs Q σ') T h.2 G₁ (.cons r .nil) hw₁) fun vs σ' s' ⟨G', zs, rs, hp⟩ u v => ?_
    exact prim_sound T.R G' u v rs hp (mshp_isinst hs)
theorem c_e_dict {m : Bool} {ks : List Int} {vs : MEs}  : SndE P Φ Gc (.dict m ks vs) := by
    intro C S ls σ s e Q T h G hw
    replace h := ag_dict h; obtain ⟨p, rfl, rfl, rfl⟩ := h
    exact tr_dict G T.R.ok (And.right (And.right hw))
theorem c_e_and {es : MEs} (ih0 : SndAnd P Φ Gc es) : SndE P Φ Gc (.and es) := by
    intro C S ls σ s e Q T h G hw
    replace h := ag_and h; obtain ⟨vs, pos, rfl, h⟩ := h
    exact ih0 (pos := pos) T h G hw
theorem c_e_or {es : MEs} (ih0 : SndOr P Φ Gc es) : SndE P Φ Gc (.or es) := by
    intro C S ls σ s e Q T h G hw
    replace h := ag_or h; obtain ⟨vs, pos, rfl, h⟩ := h
    exact ih0 (pos := pos) T h G hw
theorem c_e_not {m : ME} (ih0 : SndE P Φ Gc m) : SndE P Φ Gc (.not m) := by
    intro C S ls σ s e Q T h G hw
    replace h := ag_not h; obtain ⟨x, pos, rfl, h⟩ := h
    have e : eval (.UnaryOp .Not x pos) C.env = (do let v ← eval x C.env; standAt pos; holding [v] (unaryOp .Not v)) := rfl
    rw [e]
    refine TrE.bind (TrE.mono (ih0 T h G hw) fun v σ' s' G' _ ⟨d, r, b, hb, q⟩ => TrE.bind (TrE.standAt G' (TrE.holding ?_)))
    have e2 : unaryOp .Not v = holding [v] (do let t ← truthy v; pure (.bool (!t))) := rfl
    rw [e2]
    exact TrE.holding (TrE.bind (tr_truthy G' r hb (TrE.pure G' ⟨_, .bool _, q⟩)))
theorem c_e_cmp2 {o1 : Op} {o2 : Op} {a : ME} {b : ME} {c : ME}  : SndE P Φ Gc (.cmp2 o1 o2 a b c) := by
    intro C S ls σ s e Q T h G hw
    exact ff h
theorem c_e_call {f : Nat} {args : MEs} (ih0 : SndEs P Φ Gc args) : SndE P Φ Gc (.call f args) := by
    intro C S ls σ s e Q T h G hw
    replace h := ag_call h; obtain ⟨g, p, as, pos, rfl, h⟩ := h
    simp only [Bool.and_eq_true, beq_iff_eq, Bool.not_eq_true'] at h
    obtain ⟨⟨⟨⟨h1, h2⟩, h3⟩, h4⟩, h5⟩ := h
    obtain ⟨a, o, fd, ha, _⟩ := T.lnk.fn f g h1
    refine tr_call h3 (fun Q' hq => load_global T.of h2 G T.R.ok ha hq) (callWith_fn T h1 h4 G ha ?_)
    exact ih0 (pre := []) (xs := []) T h5 G .nil hw
theorem tg_some {S : Sc} {x : Tg} {tg : Expr} {scope : Scope} (h : (match agTg S x tg with | some ys => compOk S scope ys | none => false) = true) : ∃ ys, agTg S x tg = some ys ∧ compOk S scope ys = true := by
    cases hq : agTg S x tg with
    | none => rw [hq] at h; exact ff h
    | some ys => rw [hq] at h; exact ⟨ys, rfl, h⟩
theorem c_e_comp {m : Bool} {elt : ME} {x : Tg} {it : MI} {ifs : MEs} (ih0 : SndI P Φ Gc it) (ih1 : SndIfs P Φ Gc ifs) (ih2 : SndE P Φ Gc elt) : SndE P Φ Gc (.comp m elt x it ifs) := by
    intro C S ls σ s e Q T h G hw
    replace h := ag_comp h; obtain ⟨el, tg, iter, fs, scope, pos, rfl, h⟩ := h
    simp only [Bool.and_eq_true] at h
    obtain ⟨⟨⟨⟨⟨h1, h2⟩, h3⟩, h4⟩, h5⟩, h6⟩ := h
    obtain ⟨ys, hy, hc⟩ := tg_some h1
    refine comp_value (m := m) T G hc hy h3 (wpAny_mono (ih0 T hy h2 h4 G hw) (fun r s' ⟨σ₁, s₁, us, xs, G₁, S₁, src, hbig, J, hJ, hturn, hfin⟩ => ⟨σ₁, s₁, us, xs, G₁, S₁, src, hbig, J, hJ, fun cl L a wr k v acc σ₂ s₂ G₂ hv hJ₂ => ?_, hfin⟩) fun _ _ x => x)
    have T' : Sit (C.comp scope cl L a wr) (S.comp scope) P Φ Gc := T.comp G.fr.kind
    refine TrE.mono (ih1 T' h5 G₂ (hturn k v acc σ₂ hv hJ₂)) fun ok σ₃ s₃ G₃ _ h₃ => ?_
    cases ok with
    | false => exact h₃
    | true => exact ih2 T' h6 G₃ h₃
theorem c_e_frz {m : ME} (ih0 : SndE P Φ Gc m) : SndE P Φ Gc (.frz m) := by
    intro C S ls σ s e Q T h G hw
    exact ff h
theorem c_t_not {m : ME} (ih0 : SndT P Φ Gc m) : SndT P Φ Gc (.not m) := by
    intro C S ls σ s e Q T h G hw
    replace h := ag_not h; obtain ⟨x, pos, rfl, h⟩ := h
    have e : isTrue (.UnaryOp .Not x pos) C.env (eval (.UnaryOp .Not x pos) C.env) = (do let t ← isTrue x C.env (eval x C.env); pure (!t)) := rfl
    rw [e]
    refine TrE.bind (TrE.mono (ih0 (Q := fun b σ' => Q (!b) σ') T h G ?_) fun b σ' s' G' _ q => TrE.pure G' q)
    refine ewp_mono T.lnk.mono m hw fun d σ' ⟨b, hb, b', hb', q⟩ => ⟨b, hb, ?_⟩
    simp only [truthV, Option.some.injEq] at hb'
    rw [hb']; exact q
theorem c_t_and {es : MEs} (ih0 : SndTand P Φ Gc es) : SndT P Φ Gc (.and es) := by
    intro C S ls σ s e Q T h G hw
    replace h := ag_and h; obtain ⟨vs, pos, rfl, h⟩ := h
    exact ih0 T h G hw
theorem c_t_or {es : MEs} (ih0 : SndTor P Φ Gc es) : SndT P Φ Gc (.or es) := by
    intro C S ls σ s e Q T h G hw
    replace h := ag_or h; obtain ⟨vs, pos, rfl, h⟩ := h
    exact ih0 T h G hw
theorem c_t_var {i : Nat} (ih0 : SndE P Φ Gc (.var i)) : SndT P Φ Gc (.var i) := by
    intro C S ls σ s e Q T h G hw
    refine tr_test_plain ?_ (TrE.mono (ih0 T h G hw) fun v σ' s' _ _ ⟨d, r, b, hb, q⟩ => ⟨d, b, r, hb, q⟩)
    replace h := ag_var h; obtain ⟨x, p, rfl, _⟩ := h; rfl
theorem c_t_lit {d : V} (ih0 : SndE P Φ Gc (.lit d)) : SndT P Φ Gc (.lit d) := by
    intro C S ls σ s e Q T h G hw
    refine tr_test_plain ?_ (TrE.mono (ih0 T h G hw) fun v σ' s' _ _ ⟨d, r, b, hb, q⟩ => ⟨d, b, r, hb, q⟩)
    replace h := ag_lit h; obtain ⟨x, k, p, rfl, _⟩ := h; rfl
theorem c_t_gcon {k : Nat} (ih0 : SndE P Φ Gc (.gcon k)) : SndT P Φ Gc (.gcon k) := by
    intro C S ls σ s e Q T h G hw
    exact ff h
theorem c_t_op {o : Op} {args : MEs} (ih0 : SndE P Φ Gc (.op o args)) : SndT P Φ Gc (.op o args) := by
    intro C S ls σ s e Q T h G hw
    refine tr_test_plain ?_ (TrE.mono (ih0 T h G hw) fun v σ' s' _ _ ⟨d, r, b, hb, q⟩ => ⟨d, b, r, hb, q⟩)
    replace h := ag_op h; obtain ⟨es, hs, _⟩ := h; exact shp_tplain hs
theorem c_t_meth {o : Op} {b : ME} {args : MEs} (ih0 : SndE P Φ Gc (.meth o b args)) : SndT P Φ Gc (.meth o b args) := by
    intro C S ls σ s e Q T h G hw
    refine tr_test_plain ?_ (TrE.mono (ih0 T h G hw) fun v σ' s' _ _ ⟨d, r, b, hb, q⟩ => ⟨d, b, r, hb, q⟩)
    replace h := ag_meth h; obtain ⟨b', es, hs, _⟩ := h; exact mshp_tplain hs
theorem c_t_dict {m : Bool} {ks : List Int} {vs : MEs} (ih0 : SndE P Φ Gc (.dict m ks vs)) : SndT P Φ Gc (.dict m ks vs) := by
    intro C S ls σ s e Q T h G hw
    refine tr_test_plain ?_ (TrE.mono (ih0 T h G hw) fun v σ' s' _ _ ⟨d, r, b, hb, q⟩ => ⟨d, b, r, hb, q⟩)
    replace h := ag_dict h; obtain ⟨p, rfl, _⟩ := h; rfl
theorem c_t_cmp2 {o1 : Op} {o2 : Op} {a : ME} {b : ME} {c : ME}  : SndT P Φ Gc (.cmp2 o1 o2 a b c) := by
    intro C S ls σ s e Q T h G hw
    exact ff h
theorem c_t_call {f : Nat} {args : MEs} (ih0 : SndE P Φ Gc (.call f args)) : SndT P Φ Gc (.call f args) := by
    intro C S ls σ s e Q T h G hw
    refine tr_test_plain ?_ (TrE.mono (ih0 T h G hw) fun v σ' s' _ _ ⟨d, r, b, hb, q⟩ => ⟨d, b, r, hb, q⟩)
    replace h := ag_call h; obtain ⟨g, p, as, pos, rfl, _⟩ := h; rfl
theorem c_t_comp {m : Bool} {elt : ME} {x : Tg} {it : MI} {ifs : MEs} (ih0 : SndE P Φ Gc (.comp m elt x it ifs)) : SndT P Φ Gc (.comp m elt x it ifs) := by
    intro C S ls σ s e Q T h G hw
    refine tr_test_plain ?_ (TrE.mono (ih0 T h G hw) fun v σ' s' _ _ ⟨d, r, b, hb, q⟩ => ⟨d, b, r, hb, q⟩)
    replace h := ag_comp h; obtain ⟨el, tg, iter, fs, scope, pos, rfl, _⟩ := h; rfl
theorem c_t_frz {m : ME} (ih0 : SndE P Φ Gc (.frz m)) : SndT P Φ Gc (.frz m) := by
    intro C S ls σ s e Q T h G hw
    exact ff h
theorem okI_one {S : Sc} {it : MI} {t : Tg} {tgt : Expr} {ys : List Str} (hy : agTg S t tgt = some ys) (h : okI t it = true) (hn : ∀ ms, it ≠ .enum ms) : ∃ i y p, t = .one i ∧ tgt = .Name y p := by
    rcases agTg_inv hy with ⟨i, y, p, rfl, rfl, _⟩ | ⟨i, j, y, z, p, p', n1, pt, rfl, rfl, _⟩
    · exact ⟨i, y, p, rfl, rfl⟩
    · cases it with
      | enum ms => exact absurd rfl (hn ms)
      | seq _ => exact ff h
      | range _ => exact ff h
theorem c_i_seq {m : ME} (ih0 : SndE P Φ Gc m) : SndI P Φ Gc (.seq m) := by
    intro C S ls σ s e t tgt ys Q T hy hk h G hw
    obtain ⟨i, y, p, rfl, rfl⟩ := okI_one hy hk (fun _ h => nomatch h)
    have h : agE P S m e = true := h
    refine wpAny_mono (ih0 T h G hw) (fun v s₁ ⟨σ₁, G₁, S₁, d, rd, xs, hx, q⟩ => ?_) fun _ _ x => x
    refine ⟨σ₁, s₁, [d], xs, G₁, S₁, fun K hK => ?_, q⟩
    exact it_value T.R G₁ rd hx fun o fp P St I st => hK _ _ _ s₁.toks fp P St I st (fun b o e => Heap.get?_push_of_some _ e) (by rw [Heap.size_push]; omega)
theorem c_i_call {n : String} {k : Nat} {ms : MEs} (ih0 : SndEs P Φ Gc ms) {C : Cx} {S : Sc} {ls : Ls} {σ : View} {s : Shared} {e : Expr} {t : Tg} {tgt : Expr} {Q : List V → List V → View → Prop} (hn : n ∈ blts) (hT : ∃ ty, bval n = .type ty ∧ ∀ vs, srcT k vs = call (.type ty) vs)
    (src : ∀ {σ : View} {s : Shared} {vs : List Value} {us xs : List V}, Good C σ ls s → Reals s.heap (C.D σ) vs us → itXs k σ us = some xs → wpAny (model C.W.prog C.W.w) C.A (srcT k vs) (fun r s' => Src C tgt (rpOf t) s σ us xs r s') (fun _ _ => False) s)
    (T : Sit C S P Φ Gc) (h : (match iterArgs n S e with | some es => agEs P S ms es | none => false) = true) (G : Good C σ ls s) (hw : ewps Φ Gc ls ms (fun us σ' => itWp k us Q σ') σ) : SrcAt C ls t tgt e Q σ s := by
    replace h := ag_iter h; obtain ⟨f, p, es, pos, rfl, hc, h⟩ := h
    obtain ⟨rfl, hg, hst, hne⟩ := hc
    obtain ⟨ty, hty, hsrc⟩ := hT
    have e : eval (.Call (.Name (Str.ofString n) p) es [] pos) C.env = (do callWith pos (← eval (.Name (Str.ofString n) p) C.env) [] (backTo pos (starEach es C.env)) (backToKw pos (keywordEach [] C.env))) := rfl
    unfold SrcAt
    rw [e, starEach_noStar hst, backTo_noStar]
    refine wpAny_bind (load_blt T.of hg hn G T.R.ok T.lnk.blt ?_)
    rw [hty]
    refine callWith_argsW (.inr ⟨_, rfl⟩) hne G (ih0 (pre := []) (xs := []) (Q := fun us σ' => itWp k us Q σ') T h G .nil hw) fun vs σ₁ s₁ G₁ S₁ ⟨_, us, rs, xs, hx, q⟩ => ?_
    rw [← hsrc]
    exact wpAny_mono (src G₁ rs hx) (fun r s' src => ⟨σ₁, s₁, us, xs, G₁, S₁, src, q⟩) fun _ _ x => x
theorem c_i_range {ms : MEs} (ih0 : SndEs P Φ Gc ms) : SndI P Φ Gc (.range ms) := by
    intro C S ls σ s e t tgt ys Q T hy hk h G hw
    obtain ⟨i, y, p, rfl, rfl⟩ := okI_one hy hk (fun _ h => nomatch h)
    exact c_i_call (n := "range") (k := 1) ih0 (by decide) ⟨_, rfl, fun _ => rfl⟩ (fun G rs hx => it_src T.R G rs hx) T h G hw
theorem c_i_enum {ms : MEs} (ih0 : SndEs P Φ Gc ms) : SndI P Φ Gc (.enum ms) := by
    intro C S ls σ s e t tgt ys Q T hy hk h G hw
    rcases agTg_inv hy with ⟨i, y, p, rfl, rfl, _⟩ | ⟨i, j, y, z, p, p', n1, pt, rfl, rfl, _⟩
    · exact ff hk
    · exact c_i_call (n := "enumerate") (k := 2) ih0 (by decide) ⟨_, rfl, fun _ => rfl⟩ (fun G rs hx => it_enum T.R G rs hx) T h G hw
theorem c_es_nil   : SndEs P Φ Gc .nil := by
    intro C S ls σ s es pre xs Q T h G rs hw
    obtain rfl := ag_nil h
    exact ⟨G, xs, by rw [List.append_nil]; exact rs, by rw [ewps, List.append_nil] at hw; exact hw⟩
theorem c_es_cons {m : ME} {ms : MEs} (ih0 : SndE P Φ Gc m) (ih1 : SndEs P Φ Gc ms) : SndEs P Φ Gc (.cons m ms) := by
    intro C S ls σ s es pre xs Q T h G rs hw
    replace h := ag_cons h; obtain ⟨e, r, rfl, h⟩ := h
    simp only [Bool.and_eq_true] at h
    simp only [ewps] at hw
    refine TrE.mono (ih0 T h.1 G hw) fun v σ' s' G' S' ⟨d, rd, hw'⟩ => ?_
    refine Ev.mono (ih1 (pre := pre ++ [v]) (xs := xs ++ [d]) (Q := Q) T h.2 G' ((rs.step G S').append (.cons rd .nil)) ?_) fun vs σ'' s'' ⟨G'', zs, rz, q⟩ => ⟨G'', zs, by rw [List.append_assoc] at rz; exact rz, q⟩
    have e : (fun ys σ' => Q (xs ++ [d] ++ ys) σ') = fun ys σ' => Q (xs ++ d :: ys) σ' := by funext ys σ'; rw [List.append_assoc]; rfl
    rw [e]; exact hw'
theorem c_and_nil   : SndAnd P Φ Gc .nil := by
    intro C S ls σ s es pos Q T h G hw
    simp [ewpAnd] at hw
theorem c_and_one {m : ME} (ih0 : SndE P Φ Gc m) : SndAnd P Φ Gc (.cons m .nil) := by
    intro C S ls σ s es pos Q T h G hw
    replace h := ag_cons h; obtain ⟨e, r, rfl, h⟩ := h
    simp only [Bool.and_eq_true] at h
    obtain ⟨h1, h2⟩ := h
    obtain rfl := ag_nil h2
    simp only [ewpAnd] at hw
    exact ih0 T h1 G hw
theorem c_and_more {m m2 : ME} {ms : MEs} (ih0 : SndE P Φ Gc m) (ih1 : SndAnd P Φ Gc (.cons m2 ms)) : SndAnd P Φ Gc (.cons m (.cons m2 ms)) := by
    intro C S ls σ s es pos Q T h G hw
    replace h := ag_cons h; obtain ⟨e, r, rfl, h⟩ := h
    simp only [Bool.and_eq_true] at h
    obtain ⟨h1, h2⟩ := h
    cases r with
    | nil => exact ff h2
    | cons e2 r =>
      simp only [ewpAnd] at hw
      have e : boolOp pos .And (evalEach (e :: e2 :: r) C.env) = (do
          let v ← eval e C.env
          standAt pos
          let t ← holding [v] (truthy v)
          match BoolOp.And, t with
          | .And, false | .Or, true => pure v
          | _, _ => boolOp pos .And (evalEach (e2 :: r) C.env)) := rfl
      rw [e]
      refine TrE.bind (TrE.mono (ih0 T h1 G hw) fun v σ' s' G' _ ⟨d, rd, b, hb, hw'⟩ => TrE.bind (TrE.standAt G' (TrE.bind (TrE.holding (tr_truthy G' rd hb ?_)))))
      cases b with
      | false => exact TrE.pure G' ⟨d, rd, hw'⟩
      | true => exact ih1 T h2 G' hw'
theorem c_or_nil   : SndOr P Φ Gc .nil := by
    intro C S ls σ s es pos Q T h G hw
    simp [ewpOr] at hw
theorem c_or_one {m : ME} (ih0 : SndE P Φ Gc m) : SndOr P Φ Gc (.cons m .nil) := by
    intro C S ls σ s es pos Q T h G hw
    replace h := ag_cons h; obtain ⟨e, r, rfl, h⟩ := h
    simp only [Bool.and_eq_true] at h
    obtain ⟨h1, h2⟩ := h
    obtain rfl := ag_nil h2
    simp only [ewpOr] at hw
    exact ih0 T h1 G hw
theorem c_or_more {m m2 : ME} {ms : MEs} (ih0 : SndE P Φ Gc m) (ih1 : SndOr P Φ Gc (.cons m2 ms)) : SndOr P Φ Gc (.cons m (.cons m2 ms)) := by
    intro C S ls σ s es pos Q T h G hw
    replace h := ag_cons h; obtain ⟨e, r, rfl, h⟩ := h
    simp only [Bool.and_eq_true] at h
    obtain ⟨h1, h2⟩ := h
    cases r with
    | nil => exact ff h2
    | cons e2 r =>
      simp only [ewpOr] at hw
      have e : boolOp pos .Or (evalEach (e :: e2 :: r) C.env) = (do
          let v ← eval e C.env
          standAt pos
          let t ← holding [v] (truthy v)
          match BoolOp.Or, t with
          | .And, false | .Or, true => pure v
          | _, _ => boolOp pos .Or (evalEach (e2 :: r) C.env)) := rfl
      rw [e]
      refine TrE.bind (TrE.mono (ih0 T h1 G hw) fun v σ' s' G' _ ⟨d, rd, b, hb, hw'⟩ => TrE.bind (TrE.standAt G' (TrE.bind (TrE.holding (tr_truthy G' rd hb ?_)))))
      cases b with
      | true => exact TrE.pure G' ⟨d, rd, hw'⟩
      | false => exact ih1 T h2 G' hw'
theorem c_tand_nil   : SndTand P Φ Gc .nil := by
    intro C S ls σ s es Q T h G hw
    simp [ewpAnd] at hw
theorem c_tand_one {m : ME} (ih0 : SndT P Φ Gc m) : SndTand P Φ Gc (.cons m .nil) := by
    intro C S ls σ s es Q T h G hw
    replace h := ag_cons h; obtain ⟨e, r, rfl, h⟩ := h
    simp only [Bool.and_eq_true] at h
    obtain ⟨h1, h2⟩ := h
    obtain rfl := ag_nil h2
    simp only [ewpAnd] at hw
    have e : allTrue .And [e] C.env = (do
        match BoolOp.And, ← isTrue e C.env (eval e C.env) with
        | .And, false => pure false
        | .Or, true => pure true
        | _, _ => allTrue .And [] C.env) := rfl
    rw [e]
    refine TrE.bind (TrE.mono (ih0 T h1 G hw) fun b σ' s' G' _ q => ?_)
    cases b with
    | false => exact TrE.pure G' q
    | true => exact TrE.pure G' q
theorem c_tand_more {m m2 : ME} {ms : MEs} (ih0 : SndT P Φ Gc m) (ih1 : SndTand P Φ Gc (.cons m2 ms)) : SndTand P Φ Gc (.cons m (.cons m2 ms)) := by
    intro C S ls σ s es Q T h G hw
    replace h := ag_cons h; obtain ⟨e, r, rfl, h⟩ := h
    simp only [Bool.and_eq_true] at h
    obtain ⟨h1, h2⟩ := h
    simp only [ewpAnd] at hw
    have e : allTrue .And (e :: r) C.env = (do
        match BoolOp.And, ← isTrue e C.env (eval e C.env) with
        | .And, false => pure false
        | .Or, true => pure true
        | _, _ => allTrue .And r C.env) := rfl
    rw [e]
    refine TrE.bind (TrE.mono (ih0 (Q := fun b σ' => if b = true then ewpAnd Φ Gc ls (.cons m2 ms) (fun d σ' => ∃ b, truthV d = some b ∧ Q b σ') σ' else Q b σ') T h1 G (ewp_mono T.lnk.mono m hw fun d σ' ⟨b, hb, hw'⟩ => ⟨b, hb, ?_⟩)) fun b σ' s' G' _ q => ?_)
    · cases b with
      | false => obtain ⟨b', hb', q⟩ := hw'; rw [hb] at hb'; cases hb'; exact q
      | true => exact hw'
    · cases b with
      | false => exact TrE.pure G' q
      | true => exact ih1 T h2 G' q
theorem c_tor_nil   : SndTor P Φ Gc .nil := by
    intro C S ls σ s es Q T h G hw
    simp [ewpOr] at hw
theorem c_tor_one {m : ME} (ih0 : SndT P Φ Gc m) : SndTor P Φ Gc (.cons m .nil) := by
    intro C S ls σ s es Q T h G hw
    replace h := ag_cons h; obtain ⟨e, r, rfl, h⟩ := h
    simp only [Bool.and_eq_true] at h
    obtain ⟨h1, h2⟩ := h
    obtain rfl := ag_nil h2
    simp only [ewpOr] at hw
    have e : allTrue .Or [e] C.env = (do
        match BoolOp.Or, ← isTrue e C.env (eval e C.env) with
        | .And, false => pure false
        | .Or, true => pure true
        | _, _ => allTrue .Or [] C.env) := rfl
    rw [e]
    refine TrE.bind (TrE.mono (ih0 T h1 G hw) fun b σ' s' G' _ q => ?_)
    cases b with
    | false => exact TrE.pure G' q
    | true => exact TrE.pure G' q
theorem c_tor_more {m m2 : ME} {ms : MEs} (ih0 : SndT P Φ Gc m) (ih1 : SndTor P Φ Gc (.cons m2 ms)) : SndTor P Φ Gc (.cons m (.cons m2 ms)) := by
    intro C S ls σ s es Q T h G hw
    replace h := ag_cons h; obtain ⟨e, r, rfl, h⟩ := h
    simp only [Bool.and_eq_true] at h
    obtain ⟨h1, h2⟩ := h
    simp only [ewpOr] at hw
    have e : allTrue .Or (e :: r) C.env = (do
        match BoolOp.Or, ← isTrue e C.env (eval e C.env) with
        | .And, false => pure false
        | .Or, true => pure true
        | _, _ => allTrue .Or r C.env) := rfl
    rw [e]
    refine TrE.bind (TrE.mono (ih0 (Q := fun b σ' => if b = true then Q b σ' else ewpOr Φ Gc ls (.cons m2 ms) (fun d σ' => ∃ b, truthV d = some b ∧ Q b σ') σ') T h1 G (ewp_mono T.lnk.mono m hw fun d σ' ⟨b, hb, hw'⟩ => ⟨b, hb, ?_⟩)) fun b σ' s' G' _ q => ?_)
    · cases b with
      | true => obtain ⟨b', hb', q⟩ := hw'; rw [hb] at hb'; cases hb'; exact q
      | false => exact hw'
    · cases b with
      | true => exact TrE.pure G' q
      | false => exact ih1 T h2 G' q
theorem c_ifs_nil   : SndIfs P Φ Gc .nil := by
    intro C S ls σ s es Q T h G hw
    obtain rfl := ag_nil h
    exact TrE.pure G hw
theorem c_ifs_cons {m : ME} {ms : MEs} (ih0 : SndT P Φ Gc m) (ih1 : SndIfs P Φ Gc ms) : SndIfs P Φ Gc (.cons m ms) := by
    intro C S ls σ s es Q T h G hw
    replace h := ag_cons h; obtain ⟨e, r, rfl, h⟩ := h
    simp only [Bool.and_eq_true] at h
    simp only [ewpIfs] at hw
    have e : testsT (e :: r) C.env = (do let ok ← isTrue e C.env (eval e C.env); if ok = true then testsT r C.env else pure false) := testsT_cons ..
    rw [e]
    refine TrE.bind (TrE.mono (ih0 T h.1 G hw) fun b σ' s' G' _ q => ?_)
    cases b with
    | true => exact ih1 T h.2 G' q
    | false => exact TrE.pure G' q
mutual
theorem snd_et : ∀ m : ME, SndE P Φ Gc m ∧ SndT P Φ Gc m
  | .var i => have h : SndE P Φ Gc (.var i) := c_e_var; ⟨h, c_t_var h⟩
  | .lit d => have h : SndE P Φ Gc (.lit d) := c_e_lit; ⟨h, c_t_lit h⟩
  | .gcon k => have h : SndE P Φ Gc (.gcon k) := c_e_gcon; ⟨h, c_t_gcon h⟩
  | .op o args => have h : SndE P Φ Gc (.op o args) := c_e_op ((snd_ess args).1); ⟨h, c_t_op h⟩
  | .meth o b args => have h : SndE P Φ Gc (.meth o b args) := c_e_meth ((snd_et b).1) ((snd_ess args).1); ⟨h, c_t_meth h⟩
  | .dict m ks vs => have h : SndE P Φ Gc (.dict m ks vs) := c_e_dict; ⟨h, c_t_dict h⟩
  | .and es => have h : SndE P Φ Gc (.and es) := c_e_and ((snd_ess es).2.1); ⟨h, c_t_and ((snd_ess es).2.2.2.1)⟩
  | .or es => have h : SndE P Φ Gc (.or es) := c_e_or ((snd_ess es).2.2.1); ⟨h, c_t_or ((snd_ess es).2.2.2.2.1)⟩
  | .not m => have h : SndE P Φ Gc (.not m) := c_e_not ((snd_et m).1); ⟨h, c_t_not ((snd_et m).2)⟩
  | .cmp2 o1 o2 a b c => have h : SndE P Φ Gc (.cmp2 o1 o2 a b c) := c_e_cmp2; ⟨h, c_t_cmp2⟩
  | .call f args => have h : SndE P Φ Gc (.call f args) := c_e_call ((snd_ess args).1); ⟨h, c_t_call h⟩
  | .comp m elt x it ifs => have h : SndE P Φ Gc (.comp m elt x it ifs) := c_e_comp (snd_ii it) ((snd_ess ifs).2.2.2.2.2) ((snd_et elt).1); ⟨h, c_t_comp h⟩
  | .frz m => have h : SndE P Φ Gc (.frz m) := c_e_frz ((snd_et m).1); ⟨h, c_t_frz h⟩
theorem snd_ess : ∀ ms : MEs, SndEs P Φ Gc ms ∧ SndAnd P Φ Gc ms ∧ SndOr P Φ Gc ms ∧ SndTand P Φ Gc ms ∧ SndTor P Φ Gc ms ∧ SndIfs P Φ Gc ms
  | .nil => ⟨c_es_nil, c_and_nil, c_or_nil, c_tand_nil, c_tor_nil, c_ifs_nil⟩
  | .cons m .nil => have a := snd_et m; have b := snd_ess .nil; ⟨c_es_cons a.1 b.1, c_and_one a.1, c_or_one a.1, c_tand_one a.2, c_tor_one a.2, c_ifs_cons a.2 b.2.2.2.2.2⟩
  | .cons m (.cons m2 ms) => have a := snd_et m; have b := snd_ess (.cons m2 ms); ⟨c_es_cons a.1 b.1, c_and_more a.1 b.2.1, c_or_more a.1 b.2.2.1, c_tand_more a.2 b.2.2.2.1, c_tor_more a.2 b.2.2.2.2.1, c_ifs_cons a.2 b.2.2.2.2.2⟩
theorem snd_ii : ∀ it : MI, SndI P Φ Gc it
  | .seq m => c_i_seq ((snd_et m).1)
  | .range ms => c_i_range ((snd_ess ms).1)
  | .enum ms => c_i_enum ((snd_ess ms).1)
end
theorem snd_e : ∀ (m : ME) {C : Cx} {S : Sc} {ls : Ls} {σ : View} {s : Shared} {e : Expr} {Q : Post}, Sit C S P Φ Gc → agE P S m e = true → Good C σ ls s → ewp Φ Gc ls m Q σ → TrE C ls (eval e C.env) (RV C Q) σ s := fun x => (snd_et x).1
theorem snd_t : ∀ (m : ME) {C : Cx} {S : Sc} {ls : Ls} {σ : View} {s : Shared} {e : Expr} {Q : Bool → View → Prop}, Sit C S P Φ Gc → agE P S m e = true → Good C σ ls s → ewp Φ Gc ls m (fun d σ' => ∃ b, truthV d = some b ∧ Q b σ') σ → TrE C ls (isTrue e C.env (eval e C.env)) (fun b σ' _ => Q b σ') σ s := fun x => (snd_et x).2
theorem snd_ifs : ∀ (ms : MEs) {C : Cx} {S : Sc} {ls : Ls} {σ : View} {s : Shared} {es : List Expr} {Q : Bool → View → Prop}, Sit C S P Φ Gc → agEs P S ms es = true → Good C σ ls s → ewpIfs Φ Gc ls ms Q σ → TrE C ls (testsT es C.env) (fun b σ' _ => Q b σ') σ s := fun x => (snd_ess x).2.2.2.2.2
theorem snd_i (it : MI) : SndI P Φ Gc it := snd_ii it
end
end Mine
end

section
open PySem PyProof.Rows
set_option linter.unusedVariables false
set_option maxHeartbeats 4000000
namespace Mine

noncomputable def storable (S : Sc) (x : Str) : Bool := S.names.lookup x == some .local || S.names.lookup x == some .cell
noncomputable def isComp : Expr → Bool
  | .ListComp _ _ _ _ => true
  | .SetComp _ _ _ _ => true
  | .DictComp _ _ _ _ _ => true
  | _ => false
noncomputable def swaps (S : Sc) (t : Str) (pt : Pos) : Expr → Bool
  | .ListComp _ _ scope p => S.names.lookup t == some .local && pt.line == p.line && !(scope.names.any fun (n, k) => n == t && (k == .local || k == .cell))
  | _ => false
noncomputable def isCompM : ME → Bool
  | .comp _ _ _ _ _ => true
  | _ => false

mutual
noncomputable def agS (P : Pg) (S : Sc) : MS → Stmt → Bool
  | .assign i m, st => match st with
    | .Assign [.Name x pt] e _ => S.vars[i]? == some x && storable S x && (isComp e == isCompM m) && agE P S m e
    | _ => false
  | .setSub o k m, st => match st with
    | .Assign [.Subscript b i _] e _ => !isComp e && agE P S o b && agE P S k i && agE P S m e
    | _ => false
  | .expr m, st => match st with
    | .Expr e _ => !isComp e && agE P S m e
    | _ => false
  | .ite t a b, st => match st with
    | .If e x y _ => agE P S t e && agSs P S a x && agSs P S b y
    | _ => false
  | .loop _ _, _ => false
  | .for1 i it b, st => match st with
    | .For tg e body [] _ => (match agTg S i tg with | some ys => ys.all (storable S) | none => false) && okI i it && notSet e && agI P S it e && agSs P S b body
    | _ => false
  | .ret m, st => match st with
    | .Return (some e) _ => agE P S m e
    | _ => false
  | .freeze _, _ => false
noncomputable def agSs (P : Pg) (S : Sc) : MSs → List Stmt → Bool
  | .nil, ss => ss.isEmpty
  | .cons m r, ss => match m with
    | .freeze i => agSs P S r ss
    | m => match ss with
      | st :: rest => agS P S m st && agSs P S r rest
      | [] => false
end

structure SitS (C : Cx) (S : Sc) (P : Pg) (Φ : Spec) (Gc : Nat → V) : Prop extends Sit C S P Φ Gc where
  oc : ∀ x c, C.env.cells.lookup x = some c → C.own c

section
variable {P : Pg} {Φ : Spec} {Gc : Nat → V} {C : Cx} {S : Sc} {ls : Ls} {σ : View} {s : Shared}

theorem SitS.more (T : SitS C S P Φ Gc) {wr : List Addr} : SitS (C.more wr) S P Φ Gc := ⟨T.toSit.more, T.oc⟩

theorem storable_kind (hS : S.Of C) (T : ∀ x c, C.env.cells.lookup x = some c → C.own c) {x : Str} (h : storable S x = true) : C.env.kindOf x = some .local ∨ (C.env.kindOf x = some .cell ∧ ∀ c, C.env.cells.lookup x = some c → C.own c) := by
  unfold storable at h
  simp only [Bool.or_eq_true, beq_iff_eq] at h
  rw [kindOf_eq hS]
  exact h.imp id fun h => ⟨h, T x⟩
/-- the targets of a loop -/
theorem for_asg (T : SitS C S P Φ Gc) {t : Tg} {tgt : Expr} {ys : List Str} (hy : agTg S t tgt = some ys) (hs : ys.all (storable S) = true) {wr : List Addr} : Asg (C.more wr) tgt (rpOf t) t.up := by
  have hl : ∀ y ∈ ys, Stor (C.more wr) y := fun y hm => storable_kind T.more.of T.more.oc (List.all_eq_true.mp hs y hm)
  have hv : (C.more wr).vars = S.vars := T.of.vars
  rcases agTg_inv hy with ⟨i, y, p, rfl, rfl, rfl, h1⟩ | ⟨i, j, y, z, p, p', n1, pt, rfl, rfl, rfl, h1, h2⟩
  · exact asg1 (by rw [hv]; exact h1) (hl y (.head _))
  · exact asg2 T.R.hh (by rw [hv]; exact h1) (hl y (.head _)) (by rw [hv]; exact h2) (hl z (.tail _ (.head _)))
theorem fn_interactive (hk : C.env.scope.kind = .function) : interactive C.env = false := by unfold interactive; rw [hk]; rfl
theorem swaps_plain {e : Expr} {t : Option Expr} {line : Nat} {env : Env} (h : isComp e = false) : swapsWith e t line env = pure false := by
  unfold swapsWith
  cases e <;> first | rfl | exact ff2 h

theorem tr_assign (T : SitS C S P Φ Gc) (G : Good C σ ls s) {i : Nat} {x : Str} {pt pos : Pos} {e : Expr} {Q : View → Ls → Prop} {R : Post} (hi : S.vars[i]? = some x) (hs : storable S x = true) (hsw : swapsWith e (some (.Name x pt)) pos.line C.env = pure false)
    (h : TrE C ls (eval e C.env) (RV C fun d σ' => Q σ' (ls.set i d)) σ s) : TrS C (exec (.Assign [.Name x pt] e pos) C.env) Q R σ s := by
  refine wpAny_Assign_Name (wpAny_mono h (fun v s₁ ⟨σ₁, G₁, S₁, d, r, q⟩ => ?_) fun _ _ x => x) hsw
  exact store G₁ (by rw [T.of.vars]; exact hi) (storable_kind T.of T.oc hs) r fun s₂ G₂ S₂ => ⟨σ₁, S₁.trans S₂, ls.set i d, G₂, q⟩

theorem compM_inv {m : ME} (h : isCompM m = true) : ∃ mm elt xi it ifs, m = .comp mm elt xi it ifs := by
  cases m <;> first | exact ⟨_, _, _, _, _, rfl⟩ | exact ff h
theorem as_assign {i : Nat} {m : ME} {st : Stmt} (h : agS P S (.assign i m) st = true) : ∃ x pt e pos, st = .Assign [.Name x pt] e pos ∧ (S.vars[i]? == some x && storable S x && (isComp e == isCompM m) && agE P S m e) = true := by
  cases st with
  | Assign ts e pos =>
    cases ts with
    | nil => exact ff h
    | cons t ts =>
      cases t <;> first
        | exact ff h
        | (cases ts <;> first | exact ⟨_, _, _, _, rfl, h⟩ | exact ff h)
  | _ => exact ff h
theorem as_setSub {o k m : ME} {st : Stmt} (h : agS P S (.setSub o k m) st = true) : ∃ b i p e pos, st = .Assign [.Subscript b i p] e pos ∧ (!isComp e && agE P S o b && agE P S k i && agE P S m e) = true := by
  cases st with
  | Assign ts e pos =>
    cases ts with
    | nil => exact ff h
    | cons t ts =>
      cases t <;> first
        | exact ff h
        | (cases ts <;> first | exact ⟨_, _, _, _, _, rfl, h⟩ | exact ff h)
  | _ => exact ff h
theorem as_expr {m : ME} {st : Stmt} (h : agS P S (.expr m) st = true) : ∃ e pos, st = .Expr e pos ∧ (!isComp e && agE P S m e) = true := by
  cases st <;> first | exact ⟨_, _, rfl, h⟩ | exact ff h
theorem as_ite {t : ME} {a b : MSs} {st : Stmt} (h : agS P S (.ite t a b) st = true) : ∃ e x y pos, st = .If e x y pos ∧ (agE P S t e && agSs P S a x && agSs P S b y) = true := by
  cases st <;> first | exact ⟨_, _, _, _, rfl, h⟩ | exact ff h

theorem as_for {i : Tg} {it : MI} {b : MSs} {st : Stmt} (h : agS P S (.for1 i it b) st = true) : ∃ tg e body pos, st = .For tg e body [] pos ∧ ((match agTg S i tg with | some ys => ys.all (storable S) | none => false) && okI i it && notSet e && agI P S it e && agSs P S b body) = true := by
  cases st with
  | For t e body z pos => cases z <;> first | exact ⟨_, _, _, _, rfl, h⟩ | exact ff h
  | _ => exact ff h
theorem as_ret {m : ME} {st : Stmt} (h : agS P S (.ret m) st = true) : ∃ e pos, st = .Return (some e) pos ∧ agE P S m e = true := by
  cases st with
  | Return e pos => cases e <;> first | exact ⟨_, _, rfl, h⟩ | exact ff h
  | _ => exact ff h
theorem assign_sound (T : SitS C S P Φ Gc) (G : Good C σ ls s) {i : Nat} {m : ME} {x : Str} {pt pos : Pos} {e : Expr} {Q : View → Ls → Prop} {R : Post} (hi : S.vars[i]? = some x) (hs : storable S x = true) (hc : isComp e = isCompM m) (ha : agE P S m e = true)
    (h : ewp Φ Gc ls m (fun d σ' => Q σ' (ls.set i d)) σ) : TrS C (exec (.Assign [.Name x pt] e pos) C.env) Q R σ s := by
  by_cases hcm : isCompM m = true
  · obtain ⟨mm, elt, xi, it, ifs, rfl⟩ := compM_inv hcm
    have ha' := ha
    replace ha := ag_comp ha; obtain ⟨el, tg, iter, fs, scope, pos', rfl, ha⟩ := ha
    · skip
      simp only [Bool.and_eq_true] at ha
      obtain ⟨⟨⟨⟨⟨h1, h2⟩, h3⟩, h4⟩, h5⟩, h6⟩ := ha
      obtain ⟨ys, hy, hcc⟩ := tg_some h1
      by_cases hsw : swaps S x pt (.ListComp el [⟨tg, iter, fs, 0⟩] scope pos') = true
      · have hsw' : swapsWith (.ListComp el [⟨tg, iter, fs, 0⟩] scope pos') (some (.Name x pt)) pos.line C.env = pure true := by
          unfold swaps at hsw
          unfold swapsWith
          simp only [Bool.and_eq_true] at hsw
          have hb : C.env.blockKind = .function := by unfold Env.blockKind; rw [G.fr.kind]; rfl
          show (pure _ : Sem Bool) = _
          congr 1
          rw [hb, kindOf_eq T.of]
          simp only [beq_self_eq_true, Bool.true_and, Bool.and_eq_true]
          exact hsw
        have hk : C.env.kindOf x = some .local := by
          rw [kindOf_eq T.of]
          unfold swaps at hsw
          simp only [Bool.and_eq_true, beq_iff_eq] at hsw
          exact hsw.1.1
        refine comp_assign (m := mm) T.toSit G hcc hy h3 hi hk hsw' (wpAny_mono (snd_i it T.toSit hy h2 h4 G h) (fun r s' ⟨σ₁, s₁, us, xs, G₁, S₁, src, hbig, J, hJ, hturn, hfin⟩ => ⟨σ₁, s₁, us, xs, G₁, S₁, src, hbig, J, hJ, fun cl L a wr k v acc σ₂ s₂ G₂ hv hJ₂ => ?_, hfin⟩) fun _ _ x => x)
        have T' : Sit (C.comp scope cl L a wr) (S.comp scope) P Φ Gc := T.toSit.comp G.fr.kind
        refine TrE.mono (snd_ifs ifs T' h5 G₂ (hturn k v acc σ₂ hv hJ₂)) fun ok σ₃ s₃ G₃ _ h₃ => ?_
        cases ok with
        | false => exact h₃
        | true => exact snd_e elt T' h6 G₃ h₃
      · refine tr_assign T G hi hs ?_ (snd_e _ T.toSit ha' G h)
        have hsw2 : swaps S x pt (.ListComp el [⟨tg, iter, fs, 0⟩] scope pos') = false := by simpa using hsw
        unfold swaps at hsw2
        unfold swapsWith
        have hb : C.env.blockKind = .function := by unfold Env.blockKind; rw [G.fr.kind]; rfl
        show (pure _ : Sem Bool) = _
        congr 1
        rw [hb, kindOf_eq T.of]
        simp only [beq_self_eq_true, Bool.true_and]
        exact hsw2
  · have hcm' : isComp e = false := by rw [hc]; simpa using hcm
    exact tr_assign T G hi hs (swaps_plain hcm') (snd_e m T.toSit ha G h)
end
end Mine
end

section
open PySem PyProof.Rows
set_option linter.unusedVariables false
set_option maxHeartbeats 4000000
namespace Mine
section
variable {P : Pg} {Φ : Spec} {Gc : Nat → V} {C : Cx} {S : Sc} {ls : Ls} {σ : View} {s : Shared}

theorem false_noted {M : Model} {A : Around} {env : Env} {E : Value → Shared → Prop} {v : Value} {s : Shared} (h : False) : notedBy M A env E v s := h.elim

theorem for_sound (T : SitS C S P Φ Gc) (G : Good C σ ls s) {t : Tg} {tgt : Expr} {iter : Expr} {body : List Stmt} {pos : Pos} {Q : View → Ls → Prop} {R : Post} (hA : ∀ wr, Asg (C.more wr) tgt (rpOf t) t.up) (hns : notSet iter = true)
    (h : SrcAt C ls t tgt iter (fun xs us σ₁ => ∃ I : Nat → View → Ls → Prop, I 0 (lockV σ₁ us) ls ∧
      (∀ wr k v σ₂ ls₂ s₂, xs[k]? = some v → I k σ₂ ls₂ → Good (C.more wr) σ₂ (t.up v ls₂) s₂ → TrS (C.more wr) (execs body C.env) (fun σ₃ ls₃ => I (k + 1) σ₃ ls₃) (fun d σ₃ => R d (unlockV σ₁ us σ₃)) σ₂ s₂) ∧
      (∀ σ₂ ls₂, I xs.length σ₂ ls₂ → Q (unlockV σ₁ us σ₂) ls₂)) σ s) : TrS C (exec (.For tgt iter body [] pos) C.env) Q R σ s := by
  refine wpAny_For (wpAny_mono h (fun r s' ⟨σ₁, s₁, us, xs, G₁, S₁, src, J, hJ, hturn, hfin⟩ => src _ fun it wr h₂ tk fp Pp St I st k₂ hz₂ => ?_) fun _ _ x => x) (folded_plain hns)
  have wrn := I.new
  have wro : ∀ b, C.own b ∨ C.B b → b ∉ wr := fun b hb h => absurd (G₁.toGround.lt (.inr hb)) (Nat.not_lt.mpr (wrn b h))
  have GL := G₁.lock us
  have G₂ : Good (C.more wr) (lockV σ₁ us) ls { s₁ with heap := h₂, toks := tk } := GL.enterL k₂ hz₂ fun a ha => ⟨wrn a ha, I.alive 0 h₂ st a ha⟩
  have S₂ : Step (fun a => C.own a ∨ a ∈ wr) s₁.heap (lockV σ₁ us) h₂ (lockV σ₁ us) := ⟨fun b o e _ _ => k₂ b o e, hz₂, fun _ h1 h2 => absurd h2 h1, fun _ _ _ e _ => .inl e⟩
  have wrB : ∀ b ∈ wr, (C.more wr).own b ∨ (C.more wr).B b := fun b hb => .inr (.inr hb)
  have hlw : (C.more wr).env.locals ∉ wr := wro _ (.inl G₁.fr.ownL)
  have hcw : ∀ x c, (C.more wr).env.cells.lookup x = some c → c ∉ wr := fun x c e => wro c (G₁.fr.cells x c e).1
  have T' : SitS (C.more wr) S P Φ Gc := T.more
  -- the states of the loop
  have back : ∀ {σ' : View} {ls' : Ls} {s' : Shared}, Good (C.more wr) σ' ls' s' → Step (fun a => C.own a ∨ a ∈ wr) s₁.heap (lockV σ₁ us) s'.heap σ' → Good C (unlockV σ₁ us σ') ls' s' ∧ Step C.own s.heap σ s'.heap (unlockV σ₁ us σ') := by
    intro σ' ls' s' G' S'
    have Gc' : Good C σ' ls' s' := Good.leaveL G₁ G'
    have Sc' : Step C.own s₁.heap (lockV σ₁ us) s'.heap σ' := Step.leaveL (C := C) (wr := wr) (fun _ _ e => e) (Nat.le_refl _) wrn S'
    obtain ⟨g, st⟩ := unlock (us := us) (fun b hb => G₁.toGround.lt (.inl hb)) Gc' Sc'
    exact ⟨g, S₁.trans st⟩
  refine codeAny_forLoop_any (fun m s' => ∃ k σ' ls', m = xs.length + 1 - k ∧ k ≤ xs.length ∧ J k σ' ls' ∧ Good (C.more wr) σ' ls' s' ∧ Step (fun a => C.own a ∨ a ∈ wr) s₁.heap (lockV σ₁ us) s'.heap σ' ∧ St k s'.heap) ?_ (xs.length + 1) ⟨0, _, ls, by omega, Nat.zero_le _, hJ, G₂, S₂, st⟩
  rintro m s' ⟨k, σ', ls', rfl, hkl, hJk, G', S', st'⟩
  by_cases hlt : k < xs.length
  · refine I.item' hlt st' (fun v s₂ h => wpAny_mono h (fun _ _ h => h) fun _ _ x => false_noted x) fun v h' tk' hP st'' hk' hz' => ?_
    obtain ⟨G₅, S₅, L₅⟩ := G'.quietW (tk := tk') wrB hlw hcw hz' hk' (I.alive _ _ st'')
    have S₅ := S₅ (fun a => C.own a ∨ a ∈ wr) fun b hb => .inr hb
    have S05 := S'.trans S₅
    have Lb : Leaves s₁.heap (C.D (lockV σ₁ us)) h' ((C.more wr).D σ') := fun b o e hd => by
      have hlt := Heap.lt_size e
      have hn : lockV σ₁ us b = none := by
        cases q : lockV σ₁ us b with
        | none => rfl
        | some c => exact absurd (.inl (not_some q)) hd
      have hbw : b ∉ wr := fun h => absurd hlt (Nat.not_lt.mpr (wrn b h))
      refine ⟨S05.keep b o e (Rw.of_none hn) fun h => h.elim (fun h => hd (.inr (.inl h))) hbw, fun h => ?_⟩
      rcases (D_more b).mp h with (h | h) | h
      · exact h (S05.none hlt hn)
      · exact hd (.inr h)
      · exact hbw h
    obtain ⟨xv, hxv, rxv⟩ := I.val k v s'.heap.objs.size h' ((C.more wr).D σ') hlt Lb (fun a ha => G'.toGround.lt ha) hP
    refine wpAny_mono (hA wr σ' ls' _ v xv G₅ rxv) (fun _ s₆ ⟨G₆, S₆⟩ => ?_) fun _ _ x => false_noted x
    refine wpAny_mono (hturn wr k xv σ' (ls') s₆ hxv hJk G₆) (fun f s₇ ⟨σ₇, S₇, hf⟩ => ?_) fun _ _ x => false_noted x
    have stKeep : ∀ {hA hB : Heap} {σA σB : View} {sA : Shared} {lA : Ls}, sA.heap = hA → Good (C.more wr) σA lA sA → Step (C.more wr).own hA σA hB σB → Step (fun a => C.own a ∨ a ∈ wr) s₁.heap (lockV σ₁ us) hA σA → St (k + 1) hA → St (k + 1) hB := by
      rintro hA hB σA σB sA lA rfl GA SA SA₀ stA
      refine I.frame _ _ _ stA fun b hb o e => ?_
      rcases I.fps b hb with h | ⟨h1, h2, h3⟩
      · exact SA.keep b o e (Rw.of_none (GA.apart b (.inr (.inr h)))) fun h' => GA.apart2 b h' (.inr h)
      · exact SA.keep b o e (SA₀.notRw h1 h2) h3
    have st₆ := stKeep rfl G₅ S₆ S05 st''
    have S06 := S05.trans (S₆.weaken fun a h => .inl h)
    have S07 := S06.trans (S₇.weaken fun a h => .inl h)
    cases f with
    | next =>
      obtain ⟨ls₇, G₇, hJ₇⟩ := hf
      exact ⟨xs.length + 1 - (k + 1), by omega, k + 1, σ₇, ls₇, rfl, by omega, hJ₇, G₇, S07, stKeep rfl G₆ S₇ S06 st₆⟩
    | ret v =>
      obtain ⟨ls₇, x, G₇, r, q⟩ := hf
      obtain ⟨g, st⟩ := back G₇ S07
      refine ⟨_, st, ls₇, x, g, ?_, q⟩
      have e : C.D (unlockV σ₁ us σ₇) = C.D σ₇ := by
        funext b
        unfold Cx.D
        rcases unlockV_cases σ₁ σ₇ us with e | ⟨a', c, c', _, _, e2, e⟩
        · rw [e]
        · rw [e]
          by_cases q : b = a'
          · subst q; simp [e2]
          · rw [upd_ne q]
      rw [e]
      exact r.leaves (leaves_less _)
    | _ => exact hf.elim
  · have hk0 : k = xs.length := by omega
    subst hk0
    refine I.done' st' fun h' tk' hk' hz' => wpAny_execs_nil ?_
    have S₈ : Step (fun a => C.own a ∨ a ∈ wr) s'.heap σ' h' σ' := ⟨fun b o e _ ho => hk' b o (fun h => ho (.inr h)) e, hz', fun _ h1 h2 => absurd h2 h1, fun _ _ _ e _ => .inl e⟩
    have Gc' : Good C σ' ls' { s' with heap := h', toks := tk' } := Good.endL G₁ G' wro hz' hk'
    have Sc' : Step C.own s₁.heap (lockV σ₁ us) h' σ' := Step.leaveL (C := C) (wr := wr) (fun _ _ e => e) (Nat.le_refl _) wrn (S'.trans S₈)
    obtain ⟨g, st⟩ := unlock (us := us) (s₃ := { s' with heap := h', toks := tk' }) (fun b hb => G₁.toGround.lt (.inl hb)) Gc' Sc'
    exact ⟨_, S₁.trans st, ls', g, hfin σ' ls' hJk⟩
end
end Mine
end

section
open PySem PyProof.Rows
set_option linter.unusedVariables false
set_option maxHeartbeats 4000000
namespace Mine
section
variable {P : Pg} {Φ : Spec} {Gc : Nat → V}

theorem Good.freezeVar {C : Cx} {ls : Ls} {σ : View} {s : Shared} {i : Nat} {a : Addr} {d : V} (G : Good C σ ls s) (hi : ls i = some (.ref a)) (hd : Real s.heap (C.D (σ.del a)) (.ref a) d) : Good C (σ.del a) (ls.set i d) s := by
  have G' := G.del (a := a)
  refine ⟨G'.toGround, ?_⟩
  have F := G'.fr
  refine ⟨F.kind, F.glob, F.blt, F.ns, F.ownL, F.cells, F.inj, fun j x d' e1 e2 e3 => ?_, F.nodup, F.has⟩
  unfold Ls.set at e3
  split at e3
  · rename_i q
    cases e3; subst q
    obtain ⟨v, hv, hr⟩ := F.val j x _ e1 e2 hi
    cases hr
    exact ⟨_, hv, hd⟩
  · exact F.val j x d' e1 e2 e3

theorem tr_execs_cons {C : Cx} {σ : View} {s : Shared} {st : Stmt} {rest : List Stmt} {Q : View → Ls → Prop} {R : Post} {Q₁ : View → Ls → Prop} (h : TrS C (exec st C.env) Q₁ R σ s)
    (h' : ∀ σ' ls' s', Good C σ' ls' s' → Q₁ σ' ls' → TrS C (execs rest C.env) Q R σ' s') : TrS C (execs (st :: rest) C.env) Q R σ s := by
  refine wpAny_execs_cons (wpAny_mono h (fun f s₁ ⟨σ₁, S₁, hf⟩ => ?_) fun _ _ x => x)
  cases f with
  | next =>
    obtain ⟨ls₁, G₁, q⟩ := hf
    exact wpAny_mono (h' σ₁ ls₁ s₁ G₁ q) (fun f s₂ ⟨σ₂, S₂, hf⟩ => ⟨σ₂, S₁.trans S₂, hf⟩) fun _ _ x => x
  | ret v => exact ⟨σ₁, S₁, hf⟩
  | _ => exact hf.elim

mutual
theorem snd_s : ∀ (m : MS) {C : Cx} {S : Sc} {ls : Ls} {σ : View} {s : Shared} {st : Stmt} {Q : View → Ls → Prop} {R : Post}, SitS C S P Φ Gc → agS P S m st = true → Good C σ ls s → swp Φ Gc m Q R σ ls → TrS C (exec st C.env) Q R σ s
  | .assign i m, C, S, ls, σ, s, st, Q, R, T, h, G, hw => by
    replace h := as_assign h; obtain ⟨x, pt, e, pos, rfl, h⟩ := h
    simp only [Bool.and_eq_true, beq_iff_eq] at h
    obtain ⟨⟨⟨h1, h2⟩, h3⟩, h4⟩ := h
    exact assign_sound T G h1 h2 h3 h4 hw
  | .setSub o k m, C, S, ls, σ, s, st, Q, R, T, h, G, hw => by
    replace h := as_setSub h; obtain ⟨b, i, p, e, pos, rfl, h⟩ := h
    simp only [Bool.and_eq_true, Bool.not_eq_true'] at h
    obtain ⟨⟨⟨h1, h2⟩, h3⟩, h4⟩ := h
    simp only [swp] at hw
    refine wpAny_Assign_Subscript (wpAny_mono (snd_e m T.toSit h4 G hw) (fun v s₁ ⟨σ₁, G₁, S₁, d, rd, hw₁⟩ => wpAny_mono (snd_e o T.toSit h2 G₁ hw₁) (fun ov s₂ ⟨σ₂, G₂, S₂, x, rx, hw₂⟩ => wpAny_mono (snd_e k T.toSit h3 G₂ hw₂) (fun kv s₃ ⟨σ₃, G₃, S₃, y, ry, a, j, es, hx, hy, he, hl, hq⟩ => ?_) fun _ _ x => x) fun _ _ x => x) fun _ _ x => x) (swaps_plain h1)
    subst hx; subst hy
    have rd₃ := (rd.step G₁ S₂).step G₂ S₃
    have rx₃ := rx.step G₂ S₃
    exact wpAny_mono (g_setItem (Q := fun σ' => Q σ' ls) G₃ rx₃ ry rd₃ he hl hq) (fun _ s₄ ⟨σ₄, G₄, S₄, q⟩ => ⟨σ₄, ((S₁.trans S₂).trans S₃).trans S₄, ls, G₄, q⟩) fun _ _ x => x
  | .expr m, C, S, ls, σ, s, st, Q, R, T, h, G, hw => by
    replace h := as_expr h; obtain ⟨e, pos, rfl, h⟩ := h
    simp only [Bool.and_eq_true, Bool.not_eq_true'] at h
    exact wpAny_Expr_any (wpAny_mono (snd_e m T.toSit h.2 G hw) (fun v s₁ ⟨σ₁, G₁, S₁, d, rd, q⟩ => ⟨σ₁, S₁, ls, G₁, q⟩) fun _ _ x => x) (fn_interactive G.fr.kind) (swaps_plain h.1)
  | .ite t a b, C, S, ls, σ, s, st, Q, R, T, h, G, hw => by
    replace h := as_ite h; obtain ⟨e, x, y, pos, rfl, h⟩ := h
    simp only [Bool.and_eq_true] at h
    obtain ⟨⟨h1, h2⟩, h3⟩ := h
    simp only [swp, twp] at hw
    refine wpAny_If (wpAny_mono (snd_t t (Q := fun c σ' => if c = true then swps Φ Gc a Q R σ' ls else swps Φ Gc b Q R σ' ls) T.toSit h1 G hw) (fun c s₁ ⟨σ₁, G₁, S₁, hw₁⟩ => ?_) fun _ _ x => x)
    cases c with
    | true =>
      simp only [if_true] at hw₁ ⊢
      exact wpAny_mono (snd_ss a T h2 G₁ hw₁) (fun f s₂ ⟨σ₂, S₂, hf⟩ => ⟨σ₂, S₁.trans S₂, hf⟩) fun _ _ x => x
    | false =>
      simp only [Bool.false_eq_true, if_false] at hw₁ ⊢
      exact wpAny_mono (snd_ss b T h3 G₁ hw₁) (fun f s₂ ⟨σ₂, S₂, hf⟩ => ⟨σ₂, S₁.trans S₂, hf⟩) fun _ _ x => x
  | .loop _ _, C, S, ls, σ, s, st, Q, R, T, h, G, hw => by
    exact ff h
  | .for1 i it b, C, S, ls, σ, s, st, Q, R, T, h, G, hw => by
    replace h := as_for h; obtain ⟨tg, e, body, pos, rfl, h⟩ := h
    simp only [Bool.and_eq_true] at h
    obtain ⟨⟨⟨⟨h1, h2⟩, h3⟩, h4⟩, h5⟩ := h
    obtain ⟨ys, hy, hs⟩ : ∃ ys, agTg S i tg = some ys ∧ ys.all (storable S) = true := by
      cases hq : agTg S i tg with
      | none => rw [hq] at h1; exact ff h1
      | some ys => rw [hq] at h1; exact ⟨ys, rfl, h1⟩
    simp only [swp] at hw
    refine for_sound T G (fun _ => for_asg T hy hs) h3 (wpAny_mono (snd_i it T.toSit hy h2 h4 G hw) (fun r s' ⟨σ₁, s₁, us, xs, G₁, S₁, src, I, h0, hturn, hfin⟩ => ⟨σ₁, s₁, us, xs, G₁, S₁, src, I, h0, fun wr k v σ₂ ls₂ s₂ hv hI G₂ => ?_, hfin⟩) fun _ _ x => x)
    exact snd_ss b (C := C.more wr) T.more h5 G₂ (hturn k v σ₂ ls₂ hv hI)
  | .ret m, C, S, ls, σ, s, st, Q, R, T, h, G, hw => by
    replace h := as_ret h; obtain ⟨e, pos, rfl, h⟩ := h
    exact wpAny_Return_some (wpAny_mono (snd_e m T.toSit h G hw) (fun v s₁ ⟨σ₁, G₁, S₁, d, rd, q⟩ => ⟨σ₁, S₁, ls, d, G₁, rd, q⟩) fun _ _ x => x)
  | .freeze _, C, S, ls, σ, s, st, Q, R, T, h, G, hw => by
    exact ff h
theorem snd_ss : ∀ (ms : MSs) {C : Cx} {S : Sc} {ls : Ls} {σ : View} {s : Shared} {ss : List Stmt} {Q : View → Ls → Prop} {R : Post}, SitS C S P Φ Gc → agSs P S ms ss = true → Good C σ ls s → swps Φ Gc ms Q R σ ls → TrS C (execs ss C.env) Q R σ s
  | .nil, C, S, ls, σ, s, ss, Q, R, T, h, G, hw => by
    obtain rfl := List.isEmpty_iff.mp (show ss.isEmpty = true from h)
    exact wpAny_execs_nil ⟨σ, Step.refl _ _ _, ls, G, hw⟩
  | .cons m r, C, S, ls, σ, s, ss, Q, R, T, h, G, hw => by
    unfold agSs at h
    split at h
    · rename_i i
      simp only [swps, swp] at hw
      obtain ⟨a, hi, hw⟩ := hw
      rcases hw with ⟨xs, e, q⟩ | ⟨es, e, q⟩
      · exact wpAny_mono (snd_ss r T h (G.freezeVar hi (G.freezeL e)) q) (fun f s₂ ⟨σ₂, S₂, hf⟩ => ⟨σ₂, (Step.del _ _ _ _).trans S₂, hf⟩) fun _ _ x => x
      · exact wpAny_mono (snd_ss r T h (G.freezeVar hi (G.freezeD T.R.ok e)) q) (fun f s₂ ⟨σ₂, S₂, hf⟩ => ⟨σ₂, (Step.del _ _ _ _).trans S₂, hf⟩) fun _ _ x => x
    · split at h
      · rename_i st rest
        simp only [Bool.and_eq_true] at h
        simp only [swps] at hw
        exact tr_execs_cons (snd_s m T h.1 G hw) fun σ' ls' s' G' q => snd_ss r T h.2 G' q
      · cases h
end
end
end Mine
end

section
open PySem PySem.Calls PyProof.Rows
namespace Mine
noncomputable def simpleP (p : Arguments) : Bool := p.posonlyargs.isEmpty && p.vararg.isNone && p.kwonlyargs.isEmpty && p.kw_defaults.isEmpty && p.kwarg.isNone && p.defaults.isEmpty
theorem zip_lookup : ∀ {names : List Str} {vals : List Value}, vals.length = names.length → names.Nodup → ∀ (i : Nat) (n : Str) (v : Value), names[i]? = some n → vals[i]? = some v → (names.zip vals).lookup n = some v
  | [], _, _, _, i, n, v, h, _ => by simp at h
  | m :: ms, [], hl, _, _, _, _, _, _ => by simp at hl
  | m :: ms, w :: ws, hl, hn, i, n, v, h1, h2 => by
    obtain ⟨ha, hr⟩ := List.nodup_cons.mp hn
    cases i with
    | zero => simp at h1 h2; subst h1 h2; simp [List.lookup_cons]
    | succ i =>
      simp at h1 h2
      have hne : n ≠ m := by rintro rfl; exact ha (List.mem_iff_getElem?.mpr ⟨i, h1⟩)
      have hb : (n == m) = false := by simpa using hne
      rw [List.zip_cons_cons, List.lookup_cons, hb]
      exact zip_lookup (by simpa using hl) hr i n v h1 h2
theorem zip_lookup_some {names : List Str} {vals : List Value} (hl : vals.length = names.length) (hn : names.Nodup) {n : Str} (h : n ∈ names) : ∃ v, (names.zip vals).lookup n = some v := by
  obtain ⟨i, hi⟩ := List.mem_iff_getElem?.mp h
  have hlt : i < names.length := (List.getElem?_eq_some_iff.mp hi).1
  have hv : vals[i]? = some vals[i] := by simp
  exact ⟨_, zip_lookup hl hn i n _ hi (by rw [List.getElem?_eq_getElem (by omega)])⟩
theorem zip_filterMap : ∀ {names : List Str} {vals : List Value}, vals.length = names.length → names.Nodup → (names.filterMap fun n => ((names.zip vals).lookup n).map (n, ·)) = names.zip vals := by
  intro names vals hl hn
  have key : ∀ (ns : List Str) (ws : List Value) (pre : List Str) (pws : List Value), ws.length = ns.length → pws.length = pre.length → (pre ++ ns).Nodup → (ns.filterMap fun n => (((pre ++ ns).zip (pws ++ ws)).lookup n).map (n, ·)) = ns.zip ws := by
    intro ns
    induction ns with
    | nil => intro ws pre pws _ _ _; simp
    | cons n ns ih =>
      intro ws pre pws hw hp hnd
      cases ws with
      | nil => simp at hw
      | cons w ws =>
        have e : ((pre ++ n :: ns).zip (pws ++ w :: ws)).lookup n = some w := by
          refine zip_lookup (by simp at hw ⊢; omega) hnd pre.length n w (by simp) (by rw [← hp]; simp)
        rw [List.filterMap_cons, e]
        simp only [Option.map_some, List.zip_cons_cons]
        have := ih ws (pre ++ [n]) (pws ++ [w]) (by simpa using hw) (by simp [hp]) (by simpa using hnd)
        simp only [List.append_assoc, List.singleton_append] at this
        rw [this]
  simpa using key names vals [] [] hl rfl (by simpa using hn)
theorem bind_simple {name : Str} {p : Arguments} {body : List Stmt} {scope : Scope} {pm code doc : Value} {vals : List Value} (h : simpleP p = true) (hn : (p.args.map (·.arg)).Nodup) (hl : vals.length = p.args.length) :
    bindArgs (docDef name p body scope pm code doc) ⟨vals, []⟩ = pure ((p.args.map (·.arg)).zip vals) := by
  unfold simpleP at h
  simp only [Bool.and_eq_true, List.isEmpty_iff, Option.isNone_iff_eq_none] at h
  obtain ⟨⟨⟨⟨⟨h1, h2⟩, h3⟩, h4⟩, h5⟩, h6⟩ := h
  have hl' : vals.length = (p.args.map (·.arg)).length := by simpa using hl
  have hmiss : ((p.args.map (·.arg)).filter fun n => (((p.args.map (·.arg)).zip vals).lookup n).isNone) = [] := by
    rw [List.filter_eq_nil_iff]
    intro n hm
    obtain ⟨v, hv⟩ := zip_lookup_some hl' hn hm
    simp [hv]
  have e : seqItems? Value.none = pure none := rfl
  have htk : List.take p.args.length (p.args.map (·.arg)) = p.args.map (·.arg) := List.take_of_length_le (by simp)
  unfold bindArgs docDef
  simp only [h1, h2, h3, h5, e, List.map_nil, List.nil_append, List.forIn_nil, pure_bind, Option.getD_none, Array.toList_empty, List.length_nil, List.drop_nil, Nat.sub_zero, hl, List.length_map, htk, hmiss, List.zip_nil_right, List.append_nil, zip_filterMap hl' hn]
  simp
end Mine
end

section
open PySem PySem.Calls PyProof.Rows
set_option linter.unusedVariables false
namespace Mine

structure Fn where
  d : DefRec
  ms : MSs
  vars : List Str

noncomputable def argLs (xs : List V) : Ls := fun i => xs[i]?

noncomputable def agFn (P : Pg) (F : Fn) : Bool :=
  simpleP F.d.params && decide (F.vars.Nodup) && (F.vars.take F.d.params.args.length == F.d.params.args.map (·.arg)) && F.d.scope.kind == .function && !F.d.scope.isCoroutine && !F.d.scope.isGenerator &&
  (F.d.scope.names.all fun (n, k) => k != .free && F.d.scope.names.lookup n == some k) && (F.d.params.args.all fun a => F.d.scope.names.lookup a.arg == some .local || F.d.scope.names.lookup a.arg == some .cell) &&
  agSs P ⟨F.d.scope.names, F.vars⟩ F.ms F.d.body

theorem cellsFrom_some : ∀ (names : List (Str × NameKind)) (n0 : Nat) (acc : List (Str × Addr)) (x : Str), ((x, NameKind.cell) ∈ names ∨ (acc.lookup x).isSome = true) → ((cellsFrom n0 names acc).lookup x).isSome = true
  | [], n0, acc, x, h => by
    rcases h with h | h
    · cases h
    · exact h
  | (n, k) :: r, n0, acc, x, h => by
    unfold cellsFrom
    split
    · rename_i hk
      refine cellsFrom_some r _ _ x ?_
      by_cases q : x = n
      · right; subst q; simp [List.lookup_cons]
      · have hb : (x == n) = false := by simpa using q
        rcases h with h | h
        · rcases List.mem_cons.mp h with e | h
          · cases e; exact absurd rfl q
          · exact .inl h
        · right; rw [List.lookup_cons, hb]; exact h
    · rename_i hk
      refine cellsFrom_some r _ _ x ?_
      rcases h with h | h
      · rcases List.mem_cons.mp h with e | h
        · cases e; simp at hk
        · exact .inl h
      · exact .inr h
theorem bindL_other (ko : Str → Option NameKind) : ∀ (binds : List (Str × Value)) (m : Str → Option Value) (x : Str), x ∉ binds.map (·.1) → bindL ko binds m x = m x
  | [], m, x, _ => rfl
  | (n, v) :: r, m, x, h => by
    simp at h
    unfold bindL
    rw [bindL_other ko r _ x (by simpa using h.2)]
    split
    · simp [h.1]
    · rfl
theorem bindL_at (ko : Str → Option NameKind) : ∀ (binds : List (Str × Value)) (m : Str → Option Value) (x : Str) (v : Value), (binds.map (·.1)).Nodup → binds.lookup x = some v → ko x = some .local → bindL ko binds m x = some v
  | [], m, x, v, _, h, _ => by simp at h
  | (n, w) :: r, m, x, v, hn, h, hk => by
    simp only [List.map_cons, List.nodup_cons] at hn
    rw [List.lookup_cons] at h
    unfold bindL
    split at h
    · rename_i q
      have q' := beq_iff_eq.mp q
      cases h; subst q'
      rw [bindL_other ko r _ x hn.1, if_pos hk]; simp
    · exact bindL_at ko r _ x v hn.2 h hk
theorem bindC_other (ko : Str → Option NameKind) : ∀ (binds : List (Str × Value)) (m : Str → Option Value) (x : Str), x ∉ binds.map (·.1) → bindC ko binds m x = m x
  | [], m, x, _ => rfl
  | (n, v) :: r, m, x, h => by
    simp at h
    unfold bindC
    rw [bindC_other ko r _ x (by simpa using h.2)]
    split
    · rfl
    · simp [h.1]
theorem bindC_at (ko : Str → Option NameKind) : ∀ (binds : List (Str × Value)) (m : Str → Option Value) (x : Str) (v : Value), (binds.map (·.1)).Nodup → binds.lookup x = some v → ko x ≠ some .local → bindC ko binds m x = some v
  | [], m, x, v, _, h, _ => by simp at h
  | (n, w) :: r, m, x, v, hn, h, hk => by
    simp only [List.map_cons, List.nodup_cons] at hn
    rw [List.lookup_cons] at h
    unfold bindC
    split at h
    · rename_i q
      have q' := beq_iff_eq.mp q
      cases h; subst q'
      rw [bindC_other ko r _ x hn.1, if_neg hk]; simp
    · exact bindC_at ko r _ x v hn.2 h hk
end Mine
end

section
open PySem PySem.Calls PyProof.Rows
set_option linter.unusedVariables false
namespace Mine

noncomputable def Cx.call (C : Cx) (env : Env) (vars : List Str) : Cx :=
  { W := C.W, A := C.A.deeper env, env := env, vars := vars, own := fun a => a = env.locals ∨ ∃ n, env.cells.lookup n = some a, B := fun a => C.own a ∨ C.B a }

section
variable {C : Cx} {P : Pg} {Φ : Spec} {Gc : Nat → V} {ls : Ls} {σ : View} {s : Shared}

theorem codeRec_keeps {h h' : Heap} {c : Value} {q : Str} (x : h.CodeRec c q) (k : ∀ b o, h.get? b = some o → h'.get? b = some o) : h'.CodeRec c q := by
  obtain ⟨a, o, vs, t, h1, h2, h3⟩ := x
  exact ⟨a, o, vs, t, h1, k _ _ h2, h3⟩
theorem map_fst_zip {α β : Type} : ∀ {l : List α} {r : List β}, r.length = l.length → (l.zip r).map (·.1) = l
  | [], _, _ => rfl
  | _ :: _, [], h => by simp at h
  | a :: l, b :: r, h => by simp [map_fst_zip (l := l) (r := r) (by simpa using h)]

theorem fn_enter (G : Ground C σ s) (hW : C.W.Ok) (hh : C.A.handled = none) (hdep : C.A.depth < recursionLimit) (hu : C.A.units + 203 < cLine) {F : Fn} (hF : agFn P F = true) {a : Addr} {o : Obj} {pm code doc : Value} (ho : s.heap.get? a = some o)
    (hd : o.data = .func (docDef F.d.name F.d.params F.d.body F.d.scope pm code doc)) (hcd : s.heap.CodeRec code F.d.name) {vs : List Value} {xs : List V} (rs : Reals s.heap (C.D σ) vs xs) (hlen : xs.length = F.d.params.args.length)
    (lnk : ∀ env, Lnk C.W (C.A.deeper env) P Φ Gc) {Q : Post} (hw : swps Φ Gc F.ms (fun σ' _ => Q .none σ') Q σ (argLs xs)) :
    wpAny (model C.W.prog C.W.w) C.A (call (.ref a) vs) (fun v s' => ∃ env ls' σ' x, Good (C.call env F.vars) σ' ls' s' ∧ Step (C.call env F.vars).own s.heap σ s'.heap σ' ∧ (∀ b, (C.call env F.vars).own b → s.heap.objs.size ≤ b) ∧ Real s'.heap ((C.call env F.vars).D σ') v x ∧ Q x σ') (fun _ _ => False) s := by
  unfold agFn at hF
  simp only [Bool.and_eq_true, decide_eq_true_eq, beq_iff_eq, Bool.not_eq_true', List.all_eq_true, Bool.or_eq_true, bne_iff_ne, Prod.forall] at hF
  obtain ⟨⟨⟨⟨⟨⟨⟨⟨f1, f2⟩, f3⟩, f4⟩, f5⟩, f6⟩, f7⟩, f8⟩, f9⟩ := hF
  have hvl : vs.length = F.d.params.args.length := by rw [rs.length, hlen]
  have hpn : (F.d.params.args.map (·.arg)).Nodup := by rw [← f3]; exact List.Nodup.sublist (List.take_sublist _ _) f2
  have hbind := bind_simple (name := F.d.name) (body := F.d.body) (scope := F.d.scope) (pm := pm) (code := code) (doc := doc) f1 hpn hvl
  have hkinds : ∀ x ∈ (F.d.params.args.map (·.arg)).zip vs, F.d.scope.names.lookup x.1 = some .local ∨ (F.d.scope.names.lookup x.1 = some .cell ∧ ((cellsFrom (s.heap.objs.size + 1) F.d.scope.names []).lookup x.1).isSome = true) := by
    intro x hx
    have hx1 : x.1 ∈ F.d.params.args.map (·.arg) := (List.of_mem_zip (a := x.1) (b := x.2) hx).1
    obtain ⟨ar, har, e⟩ := List.mem_map.mp hx1
    rcases f8 ar har with h | h
    · left; rw [← e]; exact h
    · right
      refine ⟨by rw [← e]; exact h, cellsFrom_some _ _ _ _ (.inl (mem_of_lookup (by rw [← e]; exact h)))⟩
  refine wpAny_call (codeAny_call_cells hdep ho hd (hW.top.nolimit.keeps G.stays) hcd rfl hbind rfl hkinds (fun s₁ X => ?_) f5 f6 f4)
  generalize hfd : docDef F.d.name F.d.params F.d.body F.d.scope pm code doc = fd at X ⊢
  generalize henv : callEnvC fd s.heap.objs.size a = env at X ⊢
  have eL : env.locals = s.heap.objs.size := by rw [← henv]; rfl
  have eN : env.scope.names = F.d.scope.names := by rw [← henv, ← hfd]; rfl
  have eK : env.scope.kind = .function := by rw [← henv, ← hfd]; exact f4
  have eG : env.globals = mainGlobals := by rw [← henv, ← hfd]; rfl
  have eB : env.builtins = builtinsNs := by rw [← henv, ← hfd]; rfl
  have eC : env.cells = cellsFrom (s.heap.objs.size + 1) F.d.scope.names [] := by rw [← henv, ← hfd]; rfl
  have eBody : F.d.body = F.d.body := rfl
  obtain ⟨IC, hcell, hapart, habove⟩ := X
  obtain ⟨⟨h₁, tk, es⟩, hns, hkeep, hfr⟩ := IC
  subst es
  have hkeep' : ∀ b o, s.heap.get? b = some o → h₁.get? b = some o := hkeep
  have hns' : h₁.Ns env.locals _ := hns
  have hzz : s.heap.objs.size ≤ h₁.objs.size := by have := hns'.lt; rw [eL] at this; exact Nat.le_of_lt this
  have cellAb : ∀ n c, env.cells.lookup n = some c → s.heap.objs.size < c := fun n c e => by have := habove n c (mem_of_lookup e); rw [eL] at this; exact this
  have hnew : ∀ b, (C.call env F.vars).own b → s.heap.objs.size ≤ b ∧ ∃ o, h₁.get? b = some o := by
    rintro b (rfl | ⟨n, e⟩)
    · obtain ⟨o, _, _, e, _⟩ := hns'
      exact ⟨Nat.le_of_eq eL.symm, o, e⟩
    · obtain ⟨o, e', _⟩ := hcell n b e
      exact ⟨Nat.le_of_lt (cellAb n b e), o, e'⟩
  have hN : ∀ b, (C.call env F.vars).own b ∨ (C.call env F.vars).B b → (C.own b ∨ C.B b) ∨ (s.heap.objs.size ≤ b ∧ ∃ o, h₁.get? b = some o) := fun b h => h.elim (fun h => .inr (hnew b h)) .inl
  have hdis : ∀ b, (C.call env F.vars).own b → ¬ (C.call env F.vars).B b := fun b h hb => absurd (G.lt (.inr hb)) (Nat.not_lt.mpr (hnew b h).1)
  have Gr : Ground (C.call env F.vars) σ { s with heap := h₁, toks := tk } := G.enter rfl hkeep' hzz hN hdis
  have hks : ∀ x, (C.call env F.vars).env.kindOf x = F.d.scope.names.lookup x := fun x => by show env.scope.names.lookup x = _; rw [eN]
  have L : Leaves s.heap (C.D σ) h₁ ((C.call env F.vars).D σ) := fun b o e hd => by
    refine ⟨hkeep' b o e, ?_⟩
    rintro (h | h)
    · exact hd (.inl h)
    · rcases hN b h with h | h
      · exact hd (.inr h)
      · exact absurd (Heap.lt_size e) (Nat.not_lt.mpr h.1)
  have zl : ((F.d.params.args.map (·.arg)).zip vs).map (·.1) = F.d.params.args.map (·.arg) := map_fst_zip (by simpa using hvl)
  have Fr : FrOK (C.call env F.vars) σ (argLs xs) h₁ := by
    refine ⟨eK, eG, eB, ⟨_, hns'⟩, .inl rfl, fun x c e => ⟨.inl (.inr ⟨x, e⟩), ?_, ⟨_, hcell x c e⟩⟩, fun x y c e1 e2 => name_of_addr hapart (mem_of_lookup e1) (mem_of_lookup e2), fun i x d e1 e2 e3 => ?_, f2, fun x hx => ?_⟩
    · exact fun q => absurd (cellAb x c e) (Nat.not_lt.mpr (Nat.le_of_eq (by rw [← eL]; exact q)))
    · have e3' : xs[i]? = some d := e3
      obtain ⟨v, hv, hr⟩ := rs.get e3'
      have hi : i < F.d.params.args.length := by rw [← hlen]; exact (List.getElem?_eq_some_iff.mp e3').1
      have hx : (F.d.params.args.map (·.arg))[i]? = some x := by rw [← f3, List.getElem?_take_of_lt hi]; exact e1
      have hlk := zip_lookup (by simpa using hvl) hpn i x v hx hv
      refine ⟨v, ?_, hr.leaves L⟩
      by_cases q : env.kindOf x = some .local
      · exact .inl ⟨q, _, hns', bindL_at _ _ _ x v (by rw [zl]; exact hpn) hlk q⟩
      · have hc : env.kindOf x = some .cell := by
          rcases e2 with e2 | e2 | e2
          · exact absurd e2 q
          · exact e2
          · rw [hks] at e2
            exact absurd rfl (f7 x _ (mem_of_lookup e2)).1
        have hsome : (env.cells.lookup x).isSome = true := by
          rw [eC]; exact cellsFrom_some _ _ _ _ (.inl (mem_of_lookup (by have := hks x; rw [show (C.call env F.vars).env.kindOf x = env.kindOf x from rfl, hc] at this; exact this.symm)))
        obtain ⟨c, hc'⟩ := Option.isSome_iff_exists.mp hsome
        refine .inr ⟨.inl hc, c, hc', ?_⟩
        have := hcell x c hc'
        rw [bindC_at _ _ _ x v (by rw [zl]; exact hpn) hlk q] at this
        exact this
    · rcases hx with hx | hx
      · rw [hks] at hx
        have : (env.cells.lookup x).isSome = true := by rw [eC]; exact cellsFrom_some _ _ _ _ (.inl (mem_of_lookup hx))
        exact Option.isSome_iff_exists.mp this
      · rw [hks] at hx
        exact absurd rfl (f7 x _ (mem_of_lookup hx)).1
  have T : SitS (C.call env F.vars) ⟨F.d.scope.names, F.vars⟩ P Φ Gc :=
    ⟨⟨⟨hW, hh, by show C.A.units + 3 + 200 < cLine; omega⟩, ⟨eN, rfl⟩, lnk env⟩, fun x c e => .inr ⟨x, e⟩⟩
  have body := snd_ss F.ms T f9 ⟨Gr, Fr⟩ hw
  refine wpAny_mono body (fun f s' ⟨σ', S', hf⟩ => ?_) fun _ _ x => x.elim
  have S₀ : Step (C.call env F.vars).own s.heap σ s'.heap σ' := ⟨fun b o e hr ho => S'.keep b o (hkeep' b o e) hr ho, Nat.le_trans hzz S'.size, fun b h1 h2 => Nat.le_trans hzz (S'.grow b h1 h2), fun b c hb e hr => S'.ro b c (Nat.lt_of_lt_of_le hb hzz) e hr⟩
  cases f with
  | next =>
    obtain ⟨ls', G', q⟩ := hf
    exact ⟨env, ls', σ', .none, G', S₀, fun b h => (hnew b h).1, .none, q⟩
  | ret v =>
    obtain ⟨ls', x, G', r, q⟩ := hf
    exact ⟨env, ls', σ', x, G', S₀, fun b h => (hnew b h).1, r, q⟩
  | _ => exact hf.elim

theorem fn_call (G : Good C σ ls s) (hW : C.W.Ok) (hh : C.A.handled = none) (hdep : C.A.depth < recursionLimit) (hu : C.A.units + 203 < cLine) {F : Fn} (hF : agFn P F = true) {a : Addr} {o : Obj} {pm code doc : Value} (ho : s.heap.get? a = some o)
    (hd : o.data = .func (docDef F.d.name F.d.params F.d.body F.d.scope pm code doc)) (hcd : s.heap.CodeRec code F.d.name) {vs : List Value} {xs : List V} (rs : Reals s.heap (C.D σ) vs xs) (hlen : xs.length = F.d.params.args.length)
    (lnk : ∀ env, Lnk C.W (C.A.deeper env) P Φ Gc) {Q : Post} (hw : swps Φ Gc F.ms (fun σ' _ => Q .none σ') Q σ (argLs xs)) : TrE C ls (call (.ref a) vs) (RV C Q) σ s := by
  refine wpAny_mono (fn_enter G.toGround hW hh hdep hu hF ho hd hcd rs hlen lnk hw) (fun v s' ⟨env, ls', σ', x, G', S', hn, r, q⟩ => ?_) fun _ _ x => x
  obtain ⟨g, st, lv⟩ := G.leave (τ := σ') (h₄ := s'.heap) (tk := s'.toks) (N := (C.call env F.vars).own) (C' := C.call env F.vars) rfl (fun b h => h) (fun b h => ⟨hn b h, .inl h⟩) G'.toGround S' (fun b o _ e => e) (Nat.le_refl _) (fun b h => .inl h) (fun b c e => e)
    (fun _ b c e hb => by have := G'.apart b (.inl hb); rw [e] at this; cases this)
  exact ⟨σ', g, st, x, r.leaves lv, q⟩

/-! a table of functions, each calling those ahead of it -/
structure Tab where
  fns : List Fn
  gcs : List Str
noncomputable def Tab.pg (t : Tab) : Pg := ⟨t.fns.map (·.d.name), t.gcs⟩
noncomputable def below (Φ : Spec) (n : Nat) : Spec := fun f xs Q σ => f < n ∧ Φ f xs Q σ

structure Tab.Ok (t : Tab) (W : Wd) (Φ : Spec) (Gc : Nat → V) : Prop where
  w : W.Ok
  blt : Blt W
  mem : ∀ F ∈ t.fns, F.d ∈ recsOf W.q
  ag : ∀ F ∈ t.fns, agFn t.pg F = true
  mono : SpecMono Φ
  gc : ∀ k x, t.gcs[k]? = some x → ∃ v, W.mg x = some v ∧ ∀ h D, Real h D v (Gc k)
  spec : ∀ f F, t.fns[f]? = some F → ∀ xs Q σ, Φ f xs Q σ → xs.length = F.d.params.args.length ∧ swps (below Φ f) Gc F.ms (fun σ' _ => Q .none σ') Q σ (argLs xs)

theorem Tab.Ok.lnk {t : Tab} {W : Wd} (O : t.Ok W Φ Gc) : ∀ (n : Nat) (A : Around), A.handled = none → A.depth + n < recursionLimit → A.units + 3 * n + 203 < cLine → Lnk W A t.pg (below Φ n) Gc
  | n, A, hh, hd, hu => by
    have addr : ∀ (f : Nat) (g : Str), t.pg.fns[f]? = some g → ∃ (F : Fn) (a : Addr) (o : Obj) (pm code doc : Value), t.fns[f]? = some F ∧ F.d.name = g ∧ W.mg g = some (.ref a) ∧ W.s₀.heap.get? a = some o ∧ o.data = .func (docDef F.d.name F.d.params F.d.body F.d.scope pm code doc) ∧ W.s₀.heap.CodeRec code F.d.name := by
      intro f g hf
      simp only [Tab.pg, List.getElem?_map, Option.map_eq_some_iff] at hf
      obtain ⟨F, hF, rfl⟩ := hf
      obtain ⟨a, o, pm, code, doc, h1, h2, h3, h4⟩ := O.w.top.fn F.d (O.mem F (List.mem_iff_getElem?.mpr ⟨f, hF⟩))
      exact ⟨F, a, o, pm, code, doc, hF, rfl, h1, h2, h3, h4⟩
    refine ⟨fun f g hf => ?_, O.gc, O.blt, fun f vs Q Q' σ h k => ⟨h.1, O.mono f vs Q Q' σ h.2 k⟩⟩
    obtain ⟨F, a, o, pm, code, doc, hF, rfl, h1, h2, h3, h4⟩ := addr f g hf
    refine ⟨a, o, _, h1, h2, h3, fun C ls σ s vs xs Q eW eA G rs hφ => ?_⟩
    subst eW eA
    obtain ⟨hlt, hφ⟩ := hφ
    cases n with
    | zero => exact absurd hlt (Nat.not_lt_zero _)
    | succ n =>
      obtain ⟨hl, hw⟩ := O.spec f F hF xs Q σ hφ
      have hle : f ≤ n := Nat.lt_succ_iff.mp hlt
      refine fn_call (P := t.pg) (Φ := below Φ f) (Gc := Gc) G O.w hh (by omega) (by omega) (O.ag F (List.mem_iff_getElem?.mpr ⟨f, hF⟩)) (G.stays _ _ h2) h3 (codeRec_keeps h4 G.stays) rs hl (fun env => ?_) hw
      exact Tab.Ok.lnk O f (C.A.deeper env) hh (by show C.A.depth + 1 + f < _; omega) (by show C.A.units + 3 + 3 * f + 203 < _; omega)
  termination_by n => n
end
end Mine
end

section
open PySem PySem.W PySem.Calls PyProof.Rows
set_option linter.unusedVariables false
namespace Mine

theorem ints_of_items {R : WRecords} : ∀ {xs : List WData}, WShape.hasItems R xs .int = true → ∃ ks : List Int, xs = ks.map .int
  | [], _ => ⟨[], rfl⟩
  | x :: xs, h => by
    simp only [WShape.hasItems, Bool.and_eq_true] at h
    obtain ⟨ks, rfl⟩ := ints_of_items h.2
    obtain ⟨i, rfl⟩ := hasW_int h.1
    exact ⟨i :: ks, rfl⟩
theorem weight_bits : ∀ {ks : List Int} {n : Nat}, WData.weightAll (ks.map .int) ≤ n → ∀ k ∈ ks, Builtin.Int.intBits k ≤ n
  | [], _, _, k, hk => nomatch hk
  | i :: ks, n, h, k, hk => by
    simp only [List.map_cons, WData.weightAll, WData.weight] at h
    rcases List.mem_cons.mp hk with rfl | hk
    · unfold Builtin.Int.intBits; omega
    · exact weight_bits (ks := ks) (n := n) (by omega) k hk

theorem pre_ints {l : OpenLaw} (hm : l.most = some 63) (hb : l.bound = none) {args : List WData} (h : l.row.toRowW.claim.pre args = true) (hlay : WData.layableAll args = true) :
    ∃ ks : List Int, args = [.list (ks.map .int)] ∧ ks.length ≤ 63 ∧ ∀ k ∈ ks, Builtin.Int.intBits k ≤ 2 ^ 20 := by
  obtain ⟨h1, h2⟩ := pre_splitW h
  obtain ⟨d, r, rfl, hd, hr⟩ := hasAllW_cons (show WShape.hasAll _ args (WShape.list .int :: []) = true from h1)
  have := hasAllW_nil hr
  subst this
  obtain ⟨xs, rfl, hi⟩ := hasW_list hd
  obtain ⟨ks, rfl⟩ := ints_of_items hi
  refine ⟨ks, rfl, ?_, ?_⟩
  · have h3 : l.pre.holds [] { args := [.list (ks.map .int)] } = true := h2
    unfold OpenLaw.pre at h3
    rw [hm, hb] at h3
    have hv : WTm.value [] (WTm.and (.not (.lt (.lit (.int (63 : Nat))) (.len (.arg 0)))) (.lit (.bool true))) { args := [.list (ks.map .int)] } = some (.bool (!decide ((63 : Int) < ks.length))) := by
      simp [WTm.value, less?, Num.less?]
      by_cases q : (63 : Int) < ks.length <;> simp [q]
    unfold WTm.holds at h3
    rw [hv] at h3
    by_cases q : (63 : Int) < ks.length
    · simp [q] at h3
    · omega
  · simp only [WData.layableAll, List.all_cons, List.all_nil, Bool.and_true, WData.layable, Bool.and_eq_true, WData.weight] at hlay
    exact weight_bits (of_decide_eq_true hlay.2)

/-- at the top: the law's call -/
noncomputable def Cx.top (W : Wd) : Cx := { W := W, A := callerA, env := default, vars := [], own := fun _ => False, B := fun _ => False }
theorem top_ground (W : Wd) : Ground (Cx.top W) (fun _ => none) W.s₀ := by
  refine ⟨fun _ _ e => e, ⟨rfl, rfl, rfl⟩, fun a h => ?_, Nat.le_refl _, fun _ _ e => ?_, fun _ _ => rfl, fun _ h => False.elim h, fun _ h => ?_⟩
  · rcases h with h | h | h
    · exact absurd rfl h
    · exact False.elim h
    · exact False.elim h
  · cases e
  · rcases h with h | h
    · exact False.elim h
    · exact False.elim h

theorem well_ints {P : Params} {h : Heap} {D : Addr → Prop} : ∀ {vs : List Value} {ks : List Int}, WellAll P h vs (ks.map .int) → Reals h D vs (ks.map .int)
  | [], [], _ => .nil
  | _ :: _, [], w => by cases w
  | [], _ :: _, w => by cases w
  | v :: vs, k :: ks, w => by
    cases w with
    | cons a b => cases a; exact .cons (.int _ _) (well_ints b)

theorem post_true (l : OpenLaw) (args : List WData) : l.row.toRowW.claim.post args (.bool true) args = true := by
  simp [RowW.claim, OpenLaw.row, WTm.holds, WTm.value, WShape.has, WShape.arms, same]
/-- the law's walk, from its table -/
theorem law_walk {l : OpenLaw} (hm : l.most = some 63) (hb : l.bound = none) {q : Program} {loose : List Str} {XP : (Str → Option Value) → Heap → Prop} {YP : World → Heap → Prop} {d : DefRec} (t : Tab) (Φ : Spec) (Gc : Nat → V) (n : Nat) (F : Fn) (hF : t.fns[n]? = some F) (hd : F.d = d)
    (hn : n < 100) (hargs : d.params.args.length = 1) (hag : ∀ F ∈ t.fns, agFn t.pg F = true) (hmem : ∀ F ∈ t.fns, F.d ∈ recsOf q) (hmono : SpecMono Φ)
    (hblt : ∀ n ∈ blts, Str.ofString n ∉ startupNames ∧ Str.ofString n ∉ looseW q loose ∧ Str.ofString n ∉ (recsOf q).map (·.name) ∧ Str.ofString n ∉ (litsOf q).map (·.1) ∧ Str.ofString n ∉ (clssOf q (looseW q loose)).map (·.name))
    (hgc : ∀ k x, t.gcs[k]? = some x → ∃ c, valOf q x = some c ∧ ∀ h v D, Reads h v c [] → Real h D v (Gc k))
    (hspec : ∀ f F, t.fns[f]? = some F → ∀ xs Q σ, Φ f xs Q σ → xs.length = F.d.params.args.length ∧ swps (below Φ f) Gc F.ms (fun σ' _ => Q .none σ') Q σ (argLs xs))
    (hlaw : ∀ ks : List Int, ks.length ≤ 63 → (∀ k ∈ ks, Builtin.Int.intBits k ≤ 2 ^ 20) → swps (below Φ n) Gc F.ms (fun _ _ => V.none = .bool true) (fun d _ => d = .bool true) (fun _ => none) (argLs [.lst (ks.map .int)])) :
    WalkO q loose XP YP l.row.toRowW d [] (fun f vs => call f vs) := by
  intro w s₀ s₁ mg mb G Y a o pm cd doc dV kV ho hdat hcd hD hmg hg args vals as hpre hlay hrd hwl hlo
  obtain ⟨ks, rfl, hlen, hbits⟩ := pre_ints hm hb hpre hlay
  have hdV : dV = .none ∧ kV = .none := by
    refine ⟨hD.none ?_, hD.noKw⟩
    have := hag F (List.mem_iff_getElem?.mpr ⟨n, hF⟩)
    unfold agFn simpleP at this
    simp only [Bool.and_eq_true, List.isEmpty_iff] at this
    rw [← hd]
    exact this.1.1.1.1.1.1.1.1.2
  obtain ⟨rfl, rfl⟩ := hdV
  cases hwl with
  | cons hw1 hw2 =>
    cases hw2
    cases hw1 with
    | list hl hws =>
      rename_i la vs
      have O : t.Ok ⟨l.prog, w, q, looseW q loose, ExcName.means s₀.heap, s₁, mg, mb⟩ Φ Gc := by
        refine ⟨⟨G.T⟩, fun n hn => ?_, hmem, hag, hmono, fun k x hk => ?_, hspec⟩
        · obtain ⟨h1, h2, h3, h4, h5⟩ := hblt n hn
          exact G.T.free _ h1 h2 h3 h4 h5
        · obtain ⟨c, hc, hr⟩ := hgc k x hk
          obtain ⟨v, hv, hrd⟩ := G.T.const x c hc
          exact ⟨v, hv, fun h D => hr h v D (hrd h)⟩
      have lnk : ∀ env, Lnk (Cx.top ⟨l.prog, w, q, looseW q loose, ExcName.means s₀.heap, s₁, mg, mb⟩).W ((Cx.top ⟨l.prog, w, q, looseW q loose, ExcName.means s₀.heap, s₁, mg, mb⟩).A.deeper env) t.pg (below Φ n) Gc :=
        fun env => O.lnk n _ rfl (by show 1 + claimMargin + 1 + n < recursionLimit; unfold claimMargin recursionLimit; omega) (by show 4 + 3 + 3 * n + 203 < cLine; unfold cLine; omega)
      subst hd
      have key := fn_enter (C := Cx.top ⟨l.prog, w, q, looseW q loose, ExcName.means s₀.heap, s₁, mg, mb⟩) (P := t.pg) (Φ := below Φ n) (Gc := Gc) (Q := fun d _ => d = .bool true) (xs := [.lst (ks.map .int)]) (vs := [.ref la]) (top_ground _) O.w rfl (by show 1 + claimMargin < recursionLimit; decide) (by show 4 + 203 < cLine; decide) (hag F (List.mem_iff_getElem?.mpr ⟨n, hF⟩)) ho hdat hcd
        (.cons (.lst hl ?_ (fun h => ?_) (by simpa using well_ints hws)) .nil) (by simpa using hargs.symm) lnk ?_
      · refine wpAny_mono key (fun v s' ⟨env, ls', σ', x, G', S', hnew, r, hx⟩ => GoodW.toG ?_) fun _ _ x => x.elim
        subst hx
        cases r
        refine ⟨.inl ⟨.bool true, .bool true, [], rfl, fun _ => rfl, .bool true, ?_, fun _ => ⟨List.nodup_nil, fun _ h => nomatch h⟩⟩, G'.stays, G'.same.2.2, ?_⟩
        · exact post_true l _
        · rw [G'.same.1]; exact hg
      · have := (well_ints (D := fun _ => False) hws).length
        simp at this ⊢; omega
      · rcases h with h | h | h
        · exact h rfl
        · exact h
        · exact h
      · exact hlaw ks hlen hbits
end Mine
end

section
open PySem PySem.W PySem.Calls PyProof.Rows
namespace Mine
/-! helpers for conditions -/
theorem mulFits_left {a b : Int} (h1 : -(2 ^ 63) ≤ a) (h2 : a < 2 ^ 63) : mulFits a b = true := by
  unfold mulFits
  have := intBits_le_64 (k := a) (by omega) (by omega)
  simp [shortFactorBits, this, Nat.not_lt.mpr this]
theorem mulFits_right {a b : Int} (h1 : -(2 ^ 63) ≤ b) (h2 : b < 2 ^ 63) : mulFits a b = true := by
  unfold mulFits
  have := intBits_le_64 (k := b) (by omega) (by omega)
  simp [shortFactorBits, this, Nat.not_lt.mpr this]
theorem idxOf_nat {n m : Nat} (h : n < m) : idxOf (n : Int) m = some n := by unfold idxOf; simp; omega
theorem idxOf_pos {i : Int} {m : Nat} (h0 : 0 ≤ i) (h : i < m) : idxOf i m = some i.toNat := by unfold idxOf; simp [h0, h]
theorem smallI_of {i : Int} (h1 : -(2 ^ 62) < i) (h2 : i < 2 ^ 62) : smallI i = true := by unfold smallI; simp; omega
theorem rangeL_nat (n : Nat) : rangeL 0 (n : Int) 1 = (List.range n).map Int.ofNat := by
  unfold rangeL; simp
theorem rangeL_0 {n : Int} (h : 0 ≤ n) : rangeL 0 n 1 = (List.range n.toNat).map Int.ofNat := by
  have := rangeL_nat n.toNat
  rwa [Int.toNat_of_nonneg h] at this
theorem itXs_range {σ : View} {n : Int} (h : 0 ≤ n) (h2 : n < 2 ^ 62) : itXs 1 σ [.int n] = some ((List.range n.toNat).map fun k => V.int (k : Nat)) := by
  show (if smallI n = true then some ((rangeL 0 n 1).map V.int) else none) = _
  rw [if_pos (smallI_of (by omega : -(2 ^ 62) < n) h2), rangeL_0 h, List.map_map]
  rfl
theorem range_get {n k : Nat} {v : V} (h : ((List.range n).map fun k => V.int (k : Nat))[k]? = some v) : k < n ∧ v = .int k := by
  simp only [List.getElem?_map, Option.map_eq_some_iff] at h
  obtain ⟨a, h1, h2⟩ := h
  have hk : k < n := by
    have := (List.getElem?_eq_some_iff.mp h1).1
    simpa using this
  rw [List.getElem?_range hk] at h1
  cases h1
  exact ⟨hk, h2.symm⟩
end Mine
end

section
open PySem PyProof.Rows
set_option linter.unusedVariables false
namespace Mine
section
variable {Φ : Spec} {G : Nat → V}
theorem below_mono {Φ : Spec} (h : SpecMono Φ) (n : Nat) : SpecMono (below Φ n) := fun f vs Q Q' σ x k => ⟨x.1, h f vs Q Q' σ x.2 k⟩
end
end Mine
end

section
open PySem PyProof.Rows
set_option linter.unusedVariables false
set_option linter.unusedSimpArgs false
namespace Mine
/-! more helpers for conditions -/
inductive Dat : Nat → V → Prop
  | none {n : Nat} : Dat n .none
  | bool {n : Nat} (b : Bool) : Dat n (.bool b)
  | int {n : Nat} (i : Int) : Dat n (.int i)
  | str {n : Nat} (s : Str) : Dat n (.str s)
  | tup {n : Nat} {xs : List V} (h : ∀ x ∈ xs, Dat n x) : Dat (n + 1) (.tup xs)
  | lst {n : Nat} {xs : List V} (h : ∀ x ∈ xs, Dat n x) : Dat (n + 1) (.lst xs)
theorem mapM_some {σ : View} {n : Nat} : ∀ {xs : List V}, (∀ x ∈ xs, ∃ a, V.toD σ n x = some a ∧ PyData.eqv a a = true) → ∃ as, xs.mapM (V.toD σ n) = some as ∧ PyData.eqvAll as as = true
  | [], _ => ⟨[], rfl, by simp [PyData.eqvAll]⟩
  | x :: xs, h => by
    obtain ⟨a, h1, h2⟩ := h x (List.mem_cons_self ..)
    obtain ⟨as, h3, h4⟩ := mapM_some (xs := xs) fun y hy => h y (List.mem_cons_of_mem _ hy)
    exact ⟨a :: as, by simp [List.mapM_cons, h1, h3], by simp [PyData.eqvAll, h2, h4]⟩
theorem Dat.toD {σ : View} {n : Nat} {v : V} (h : Dat n v) : ∃ a, V.toD σ n v = some a ∧ PyData.eqv a a = true := by
  induction h with
  | none => exact ⟨.none, by simp [V.toD], by simp [PyData.eqv]⟩
  | bool b => exact ⟨.bool b, by simp [V.toD], by simp [PyData.eqv]⟩
  | int i => exact ⟨.int i, by simp [V.toD], by simp [PyData.eqv]⟩
  | str s => exact ⟨.str s, by simp [V.toD], by simp [PyData.eqv]⟩
  | tup h ih => obtain ⟨as, h1, h2⟩ := mapM_some ih; exact ⟨.tuple as, by simp [V.toD, h1], by simp [PyData.eqv, h2]⟩
  | lst h ih => obtain ⟨as, h1, h2⟩ := mapM_some ih; exact ⟨.list as, by simp [V.toD, h1], by simp [PyData.eqv, h2]⟩
end Mine
end

section
open PySem PyProof.Rows
set_option linter.unusedVariables false
set_option linter.unusedSimpArgs false
namespace Mine
section
variable {Φ : Spec} {G : Nat → V} {Q : View → Ls → Prop} {R : Post} {σ : View} {ls : Ls} {r : MSs}
theorem set_get {ls : Ls} {i j : Nat} {v : V} : (ls.set i v) j = if j = i then some v else ls j := rfl
theorem set_same {ls : Ls} {i : Nat} {v : V} (h : ls i = some v) : ls.set i v = ls := by
  funext j; rw [set_get]; split
  · next e => rw [e, h]
  · rfl
theorem set_set {ls : Ls} {i : Nat} {v w : V} : (ls.set i v).set i w = ls.set i w := by
  funext j; simp only [set_get]; split <;> rfl
theorem cut_assign (hM : SpecMono Φ) {i : Nat} {e : ME} (P : V → Prop) (h : ewp Φ G ls e (fun d σ' => σ' = σ ∧ P d) σ) (k : ∀ d, P d → swps Φ G r Q R σ (ls.set i d)) : swps Φ G (.cons (.assign i e) r) Q R σ ls := by
  simp only [swps, swp]
  exact ewp_mono hM e h fun d σ' ⟨e, p⟩ => by subst e; exact k d p
theorem cut_if_assign (hM : SpecMono Φ) {i : Nat} {t e : ME} (P : V → Prop) (h : twp Φ G ls t (fun c σ' => σ' = σ ∧ if c then ewp Φ G ls e (fun d σ' => σ' = σ ∧ P d) σ else ∃ d, ls i = some d ∧ P d) σ) (k : ∀ d, P d → swps Φ G r Q R σ (ls.set i d)) : swps Φ G (.cons (.ite t (.cons (.assign i e) .nil) .nil) r) Q R σ ls := by
  simp only [swps, swp, twp] at h ⊢
  refine ewp_mono hM t h fun d σ' ⟨b, h1, e1, h2⟩ => ⟨b, h1, ?_⟩
  subst e1
  cases b with
  | true => simp only [if_true] at h2 ⊢; exact ewp_mono hM e h2 fun d σ' ⟨e, p⟩ => by subst e; exact k d p
  | false =>
    simp only [Bool.false_eq_true, if_false] at h2 ⊢
    obtain ⟨d, h3, h4⟩ := h2
    have := k d h4
    rwa [set_same h3] at this
theorem cut_guard (hM : SpecMono Φ) {t : ME} {a : MSs} (h : twp Φ G ls t (fun c σ' => σ' = σ ∧ c = false) σ) (k : swps Φ G r Q R σ ls) : swps Φ G (.cons (.ite t a .nil) r) Q R σ ls := by
  simp only [swps, swp, twp] at h ⊢
  refine ewp_mono hM t h fun d σ' ⟨b, h1, e1, h2⟩ => ⟨b, h1, ?_⟩
  subst e1; subst h2
  simpa using k
theorem cut_ite_ret (hM : SpecMono Φ) {t e : ME} {b : MSs} (h : twp Φ G ls t (fun c σ' => σ' = σ ∧ c = true) σ) (k : ewp Φ G ls e R σ) : swps Φ G (.cons (.ite t (.cons (.ret e) .nil) b) r) Q R σ ls := by
  show twp Φ G ls t (fun c σ' => if c then ewp Φ G ls e R σ' else _) σ
  refine ewp_mono hM t h fun d σ' ⟨b, h1, e1, h2⟩ => ⟨b, h1, ?_⟩
  subst e1; subst h2
  rw [if_pos rfl]; exact k
end
end Mine
end

section
open PySem PyProof.Rows
set_option linter.unusedVariables false
set_option linter.unusedSimpArgs false
namespace Mine
/-! what each operation asks, case by case -/
theorem ex_some {a : V} {k : V → Prop} : (∃ d, some a = some d ∧ k d) ↔ k a := ⟨fun ⟨_, e, h⟩ => Option.some.inj e ▸ h, fun h => ⟨_, rfl, h⟩⟩
theorem map_ex {α β : Type} {o : Option α} {f : α → β} {k : β → Prop} : (∃ d, o.map f = some d ∧ k d) ↔ ∃ d, o = some d ∧ k (f d) := by cases o <;> simp
section
variable {Q : Post} {σ : View} {a b : Int} {x y : V} {s t : Str} {xs ys : List V}
theorem p_lt : prim .lt [.int a, .int b] Q σ ↔ Q (.bool (decide (a < b))) σ := by first | exact ex_some | exact some_ite_ex | exact map_ex | exact Iff.rfl
theorem p_in : prim .isIn [x, y] Q σ ↔ ∃ b, inV σ x y = some b ∧ Q (.bool b) σ := by first | exact ex_some | exact some_ite_ex | exact map_ex | exact Iff.rfl
theorem p_len_l : prim .len [.lst xs] Q σ ↔ Q (.int xs.length) σ := by first | exact ex_some | exact some_ite_ex | exact map_ex | exact Iff.rfl
theorem p_item_l : prim .item [.lst xs, .int a] Q σ ↔ ∃ d, ((idxOf a xs.length).bind fun j => xs[j]?) = some d ∧ Q d σ := by first | exact ex_some | exact some_ite_ex | exact map_ex | exact Iff.rfl
theorem tr_b {c : Bool} {k : Bool → Prop} : (∃ b, truthV (.bool c) = some b ∧ k b) ↔ k c := by simp [truthV]
theorem w_var {Φ : Spec} {G : Nat → V} {ls : Ls} {i : Nat} : ewp Φ G ls (.var i) Q σ ↔ ∃ d, ls i = some d ∧ Q d σ := Iff.rfl
theorem it_lst {Qi : List V → List V → View → Prop} : itWp 0 [.lst xs] Qi σ ↔ Qi xs [.lst xs] σ := ⟨fun ⟨_, e, h⟩ => Option.some.inj e ▸ h, fun h => ⟨_, rfl, h⟩⟩
theorem it_tup {Qi : List V → List V → View → Prop} : itWp 0 [.tup xs] Qi σ ↔ Qi xs [.tup xs] σ := ⟨fun ⟨_, e, h⟩ => Option.some.inj e ▸ h, fun h => ⟨_, rfl, h⟩⟩
theorem it_rng {Qi : List V → List V → View → Prop} (h : 0 ≤ a) (h2 : a < 2 ^ 62) : itWp 1 [.int a] Qi σ ↔ Qi ((List.range a.toNat).map fun k => V.int (k : Nat)) [.int a] σ := ⟨fun ⟨_, e, h3⟩ => by rw [itXs_range h h2] at e; exact Option.some.inj e ▸ h3, fun h3 => ⟨_, itXs_range h h2, h3⟩⟩
section
variable {Φ : Spec} {G : Nat → V} {ls : Ls}
theorem w_lit {d : V} : ewp Φ G ls (.lit d) Q σ ↔ Q d σ := Iff.rfl
theorem w_op {o : Op} {es : MEs} : ewp Φ G ls (.op o es) Q σ ↔ ewps Φ G ls es (fun vs σ' => prim o vs Q σ') σ := Iff.rfl
theorem w_meth {o : Op} {e : ME} {es : MEs} : ewp Φ G ls (.meth o e es) Q σ ↔ ewp Φ G ls e (fun x σ₁ => methOk o x σ₁ ∧ ewps Φ G ls es (fun vs σ₂ => prim o (x :: vs) Q σ₂) σ₁) σ := Iff.rfl
end
end
end Mine
end

section
open PySem PyProof.Rows
set_option linter.unusedVariables false
set_option linter.unusedSimpArgs false
namespace Mine
noncomputable def es (l : List ME) : MEs := l.foldr .cons .nil
noncomputable def ss (l : List MS) : MSs := l.foldr .cons .nil
local macro_rules | `(tactic| array_get_dec) => `(tactic| simp only [twp, es, ss, List.foldr, w_var, w_lit, w_op, ewps, ewpOr, ewpAnd, ewpIfs, ewpI, p_lt, p_len_l, tr_b, it_lst, it_tup, Option.some.injEq, exists_eq_left', set_get, argLs, List.getElem?_cons_zero, List.getElem?_cons_succ, reduceIte, decide_eq_true_eq, true_and, and_true, List.length_cons, List.length_nil, Bool.not_true, Bool.not_false, Bool.false_eq_true, Nat.reduceEqDiff, Nat.succ_ne_self, Int.reduceToNat, and_self])
/-- values that are their own story: no objects of the view -/
noncomputable def plainV : V → Bool
  | .ref _ => false
  | .raw _ => false
  | _ => true
theorem Dat.plain {n : Nat} {v : V} (h : Dat n v) : plainV v = true := by cases h <;> rfl
noncomputable def cellAt (ks : List Int) (k : Nat) : Int := ks.getD k 0
/-- _law_cell_at, in every law -/
noncomputable def mCell : MSs := ss [.ite (.op .lt (es [.var 1, .op .len (es [.var 0])])) (ss [.ret (.op .item (es [.var 0, .var 1]))]) (ss []), .ret (.lit (.int 0))]
noncomputable def cellS (xs : List V) (Q : Post) (σ : View) : Prop := ∃ (ks : List Int) (k : Int), xs = [.lst (ks.map .int), .int k] ∧ 0 ≤ k ∧ ks.length ≤ 63 ∧ Q (.int (cellAt ks k.toNat)) σ
theorem cellS_mono {xs : List V} {Q Q' : Post} {σ : View} (h : cellS xs Q σ) (k : ∀ d σ', Q d σ' → Q' d σ') : cellS xs Q' σ := let ⟨ks, j, h1, h2, h3, h4⟩ := h; ⟨ks, j, h1, h2, h3, k _ _ h4⟩
theorem cellS_ok (Φ : Spec) (Gc : Nat → V) {xs : List V} {Q : Post} {σ : View} (h : cellS xs Q σ) : xs.length = 2 ∧ swps Φ Gc mCell (fun σ' _ => Q .none σ') Q σ (argLs xs) := by
  obtain ⟨ks, k, rfl, h0, hl, h⟩ := h
  refine ⟨rfl, ?_⟩
  unfold mCell ss
  simp only [swps, swp, List.foldr]
  array_get_dec
  simp only [List.length_map]
  split
  · rename_i q
    have hk : k.toNat < ks.length := by omega
    rw [p_item_l]
    refine ⟨.int (cellAt ks k.toNat), ?_, h⟩
    rw [List.length_map, idxOf_pos h0 q]
    simp [cellAt, hk]
  · rename_i q
    have : cellAt ks k.toNat = 0 := by unfold cellAt; rw [List.getD_eq_getElem?_getD, List.getElem?_eq_none (by omega)]; rfl
    rw [this] at h; exact h
theorem sliceL_take {α : Type} {xs : List α} {b : Int} (h : 0 ≤ b) : sliceL xs 0 (some b) = xs.take b.toNat := by
  have : clipI xs.length 0 = 0 := by simp [clipI]
  unfold sliceL; rw [this]; simp [clipI]
  rw [if_neg (by omega)]; omega
theorem sliceL_drop {α : Type} {xs : List α} {a : Int} (h : 0 ≤ a) : sliceL xs a none = xs.drop a.toNat := by
  unfold sliceL; simp [clipI]
  rw [if_neg (by omega)]; omega
end Mine
end

section
open PySem PyProof.Rows
set_option linter.unusedVariables false
set_option linter.unusedSimpArgs false
set_option maxRecDepth 100000
namespace Mine
local macro_rules | `(tactic| array_get_dec) => `(tactic| simp only [twp, es, ss, List.foldr, w_var, w_lit, w_op, ewps, ewpOr, ewpAnd, ewpIfs, ewpI, p_lt, p_len_l, tr_b, it_lst, it_tup, Option.some.injEq, exists_eq_left', set_get, argLs, List.getElem?_cons_zero, List.getElem?_cons_succ, reduceIte, decide_eq_true_eq, true_and, and_true, List.length_cons, List.length_nil, Bool.not_true, Bool.not_false, Bool.false_eq_true, Nat.reduceEqDiff, Nat.succ_ne_self, Int.reduceToNat, and_self])
end Mine
end

section
open PySem PyProof.Rows
set_option linter.unusedVariables false
set_option linter.unusedSimpArgs false
namespace Mine
/-! dicts as lists of entries -/
noncomputable def keysD {α : Type} (es : List (Int × α)) : List Int := es.map (·.1)
section
variable {α : Type} {es : List (Int × α)} {j k : Int} {v w : α}
theorem lookD_put : lookD j (putD k v es) = if j = k then some v else lookD j es := by
  induction es with
  | nil => simp only [putD, lookD]; by_cases q : j = k <;> simp [q, eq_comm]
  | cons p es ih =>
    obtain ⟨i, w⟩ := p
    simp only [putD]
    by_cases q : i = k
    · subst q; simp only [if_true, lookD]; by_cases r : i = j
      · subst r; simp
      · simp [r, Ne.symm r]
    · simp only [q, if_false, lookD, ih]
      by_cases r : i = j
      · subst r; simp [q]
      · simp [r]
theorem lookD_none : lookD k es = none ↔ k ∉ keysD es := by
  induction es with
  | nil => simp [lookD, keysD]
  | cons p es ih =>
    obtain ⟨i, w⟩ := p
    simp only [lookD, keysD, List.map_cons, List.mem_cons, not_or] at ih ⊢
    by_cases q : i = k
    · subst q; simp
    · simp only [q, if_false, ih]; simp [Ne.symm q]
theorem mem_lookD (hn : (keysD es).Nodup) (h : (k, v) ∈ es) : lookD k es = some v := by
  induction es with
  | nil => simp at h
  | cons p es ih =>
    obtain ⟨i, w⟩ := p
    simp only [keysD, List.map_cons, List.nodup_cons] at hn
    simp only [lookD]
    rcases List.mem_cons.mp h with e | e
    · cases e; simp
    · by_cases q : i = k
      · subst q; exact absurd (List.mem_map.mpr ⟨_, e, rfl⟩) hn.1
      · simp only [q, if_false]; exact ih hn.2 e
theorem keys_put : keysD (putD k v es) = if k ∈ keysD es then keysD es else keysD es ++ [k] := by
  induction es with
  | nil => simp [putD, keysD]
  | cons p es ih =>
    obtain ⟨i, w⟩ := p
    simp only [putD, keysD] at ih ⊢
    by_cases q : i = k
    · subst q; simp
    · simp only [q, if_false, List.map_cons, ih, List.mem_cons]
      by_cases r : k ∈ es.map (·.1)
      · simp [r]
      · simp only [r, if_false, or_false]; rw [if_neg (fun h => q h.symm)]; simp
theorem nodup_put (hn : (keysD es).Nodup) : (keysD (putD k v es)).Nodup := by
  rw [keys_put]; split
  · exact hn
  · next h => exact List.nodup_append.mpr ⟨hn, by simp, by simp; intro a ha e; subst e; exact h ha⟩
theorem len_put_le : (putD k v es).length ≤ es.length + 1 := by
  induction es with
  | nil => simp [putD]
  | cons p es ih =>
    obtain ⟨i, w⟩ := p
    simp only [putD]
    by_cases q : i = k
    · simp [q]
    · simp [q]; exact ih
theorem mem_put {p : Int × α} (h : p ∈ putD k v es) : p = (k, v) ∨ p ∈ es := by
  induction es with
  | nil => simp [putD] at h; exact .inl h
  | cons q es ih =>
    obtain ⟨i, w⟩ := q
    simp only [putD] at h
    by_cases r : i = k
    · subst r; simp at h; rcases h with rfl | h
      · exact .inl rfl
      · exact .inr (List.mem_cons_of_mem _ h)
    · simp only [r, if_false] at h
      rcases List.mem_cons.mp h with rfl | h
      · exact .inr (List.mem_cons_self ..)
      · rcases ih h with h | h
        · exact .inl h
        · exact .inr (List.mem_cons_of_mem _ h)
theorem mem_drop {p : Int × α} (h : p ∈ dropD k es) : p ∈ es := by
  induction es with
  | nil => simp [dropD] at h
  | cons q es ih =>
    obtain ⟨i, w⟩ := q
    simp only [dropD] at h
    by_cases r : i = k
    · subst r; simp at h; exact List.mem_cons_of_mem _ h
    · simp only [r, if_false] at h
      rcases List.mem_cons.mp h with rfl | h
      · exact List.mem_cons_self ..
      · exact List.mem_cons_of_mem _ (ih h)
theorem lookD_drop_ne (h : j ≠ k) : lookD j (dropD k es) = lookD j es := by
  induction es with
  | nil => rfl
  | cons p es ih =>
    obtain ⟨i, w⟩ := p
    simp only [dropD]
    by_cases q : i = k
    · subst q; simp [lookD, Ne.symm h]
    · simp only [q, if_false, lookD, ih]
theorem nodup_drop (hn : (keysD es).Nodup) : (keysD (dropD k es)).Nodup := by
  induction es with
  | nil => simpa [dropD] using hn
  | cons p es ih =>
    obtain ⟨i, w⟩ := p
    simp only [keysD, List.map_cons, List.nodup_cons, dropD] at hn ih ⊢
    by_cases q : i = k
    · simp only [q, if_true]; exact hn.2
    · simp only [q, if_false, List.map_cons, List.nodup_cons]
      refine ⟨fun h => hn.1 ?_, ih hn.2⟩
      obtain ⟨x, hx, e⟩ := List.mem_map.mp h
      exact List.mem_map.mpr ⟨x, mem_drop hx, e⟩
theorem lookD_drop (hn : (keysD es).Nodup) : lookD j (dropD k es) = if j = k then none else lookD j es := by
  by_cases q : j = k
  · subst q
    simp only [if_true]
    induction es with
    | nil => rfl
    | cons p es ih =>
      obtain ⟨i, w⟩ := p
      simp only [keysD, List.map_cons, List.nodup_cons, dropD] at hn ih ⊢
      by_cases q : i = j
      · subst q; simp only [if_true]; exact lookD_none.mpr hn.1
      · simp only [q, if_false, lookD]; exact ih hn.2
  · simp only [q, if_false]; exact lookD_drop_ne q
theorem len_drop_le : (dropD k es).length ≤ es.length := by
  induction es with
  | nil => simp [dropD]
  | cons p es ih =>
    obtain ⟨i, w⟩ := p
    simp only [dropD]
    by_cases q : i = k
    · simp [q]
    · simp [q]; exact ih
theorem len_drop (h : (lookD k es).isSome = true) : (dropD k es).length + 1 = es.length := by
  induction es with
  | nil => simp [lookD] at h
  | cons p es ih =>
    obtain ⟨i, w⟩ := p
    simp only [lookD, dropD] at h ⊢
    by_cases q : i = k
    · simp [q]
    · simp only [q, if_false] at h ⊢; simp [ih h]
theorem drop_none (h : lookD k es = none) : dropD k es = es := by
  induction es with
  | nil => rfl
  | cons p es ih =>
    obtain ⟨i, w⟩ := p
    simp only [lookD, dropD] at h ⊢
    by_cases q : i = k
    · simp [q] at h
    · simp only [q, if_false] at h ⊢; rw [ih h]
end
theorem len_le_of {α : Type} : ∀ {a b : List (Int × α)}, (keysD a).Nodup → (∀ j, (lookD j a).isSome = true → (lookD j b).isSome = true) → a.length ≤ b.length
  | [], b, _, _ => by simp
  | (k, v) :: a, b, hn, h => by
    simp only [keysD, List.map_cons, List.nodup_cons] at hn
    have hk : (lookD k b).isSome = true := h k (by simp [lookD])
    have := len_drop hk
    have ih := len_le_of (a := a) (b := dropD k b) hn.2 fun j hj => by
      have hne : j ≠ k := by
        rintro rfl
        have := lookD_none.mpr (show j ∉ keysD a from hn.1)
        rw [this] at hj; simp at hj
      rw [lookD_drop_ne hne]
      exact h j (by simp only [lookD]; rw [if_neg (Ne.symm hne)]; exact hj)
    simp; omega
theorem eqD_refl {σ : View} {v : V} (h : Dat 20 v) : eqD σ v v = some true := by
  obtain ⟨a, h1, h2⟩ := h.toD (σ := σ)
  simp [eqD, h1, h2]
theorem eqAll_of {σ : View} {b : List (Int × V)} : ∀ {a : List (Int × V)}, (∀ p ∈ a, lookD p.1 b = some p.2 ∧ Dat 20 p.2) → eqAll σ b a = some true
  | [], _ => rfl
  | (k, v) :: a, h => by
    obtain ⟨h1, h2⟩ := h (k, v) (List.mem_cons_self ..)
    have ih := eqAll_of (σ := σ) (a := a) fun p hp => h p (List.mem_cons_of_mem _ hp)
    simp only [eqAll, h1, eqD_refl h2, ih]; rfl
/-- two dicts with the same entries are equal, whatever their orders -/
theorem eqDict_ext {σ : View} {a b : List (Int × V)} (ha : (keysD a).Nodup) (hb : (keysD b).Nodup) (h : ∀ j, lookD j a = lookD j b) (hd : ∀ p ∈ a, Dat 20 p.2) : eqDict σ a b = some true := by
  have h1 := len_le_of ha (b := b) fun j hj => by rw [← h j]; exact hj
  have h2 := len_le_of hb (b := a) fun j hj => by rw [h j]; exact hj
  have e : a.length = b.length := by omega
  simp only [eqDict, e, if_true]
  exact eqAll_of fun p hp => ⟨by rw [← h]; exact mem_lookD ha hp, hd p hp⟩
theorem eqV_dic {σ : View} {x y : V} {a b : List (Int × V)} (hx : dicOf σ x = some a) (hy : dicOf σ y = some b) : eqV σ x y = eqDict σ a b := by
  have hx0 : x.toD σ 20 = none := by
    cases x <;> simp_all [dicOf, V.toD]
    split at hx <;> simp_all
  unfold eqV
  split
  · simp [dicOf] at hx
  · simp [dicOf] at hx
  · rw [hx0]; simp [hx, hy]
/-- lists, wherever they lie -/
theorem eqV_list {σ : View} {x y : V} {l : List V} (hx : lstOf σ x = some l) (hy : lstOf σ y = some l) (hd : ∀ v ∈ l, Dat 19 v) : eqV σ x y = some true := by
  obtain ⟨as, h1, h2⟩ := mapM_some (σ := σ) (n := 19) (xs := l) fun v hv => (hd v hv).toD
  have key : ∀ z, lstOf σ z = some l → V.toD σ 20 z = some (.list as) := by
    intro z hz
    cases z <;> simp_all [lstOf, V.toD]
    split at hz <;> simp_all
  unfold eqV
  split
  · simp [lstOf] at hx
  · simp [lstOf] at hx
  · rw [key x hx, key y hy]; simp [PyData.eqv, h2]
theorem Dat.mono {n m : Nat} {v : V} (h : Dat n v) (hm : n ≤ m) : Dat m v := by
  induction h generalizing m with
  | none => exact .none
  | bool b => exact .bool b
  | int i => exact .int i
  | str s => exact .str s
  | tup h ih => cases m with
    | zero => omega
    | succ m => exact .tup fun x hx => ih x hx (by omega)
  | lst h ih => cases m with
    | zero => omega
    | succ m => exact .lst fun x hx => ih x hx (by omega)
end Mine
end

section
open PySem PyProof.Rows
set_option linter.unusedVariables false
set_option linter.unusedSimpArgs false
set_option maxRecDepth 100000
namespace Mine
local macro_rules | `(tactic| array_get_dec) => `(tactic| simp only [twp, es, ss, List.foldr, w_var, w_lit, w_op, ewps, ewpOr, ewpAnd, ewpIfs, ewpI, p_lt, p_len_l, tr_b, it_lst, it_tup, Option.some.injEq, exists_eq_left', set_get, argLs, List.getElem?_cons_zero, List.getElem?_cons_succ, reduceIte, decide_eq_true_eq, true_and, and_true, List.length_cons, List.length_nil, Bool.not_true, Bool.not_false, Bool.false_eq_true, Nat.reduceEqDiff, Nat.succ_ne_self, Int.reduceToNat, and_self])
theorem ty_ref_d {σ : View} {a : Addr} {r : Bool} {es : List (Int × V)} (h : σ a = some (.dict r es)) : isTypeV σ "dict" (.ref a) = some true := by
  show (match σ a with | some (.list _ _) => some ("dict" == "list") | some (.dict _ _) => some ("dict" == "dict") | _ => none) = some true
  rw [h]; rfl
theorem w_dict0 {Φ : Spec} {G : Nat → V} {ls : Ls} {Q : Post} {σ : View} : ewp Φ G ls (.dict true [] .nil) Q σ ↔ ∀ a, σ a = none → Q (.ref a) (σ.upd a (.dict false [])) := ⟨fun h => h.2.2, fun h => ⟨List.nodup_nil, rfl, h⟩⟩
theorem cut_dict {Φ : Spec} {G : Nat → V} {ls : Ls} {Q : View → Ls → Prop} {R : Post} {σ : View} {i : Nat} {r : MSs} (k : ∀ a, σ a = none → swps Φ G r Q R (σ.upd a (.dict false [])) (ls.set i (.ref a))) : swps Φ G (.cons (.assign i (.dict true [] .nil)) r) Q R σ ls := by
  show ewp Φ G ls (.dict true [] .nil) (fun d σ' => swps Φ G r Q R σ' (ls.set i d)) σ
  exact w_dict0.mpr k
theorem cut_freezeD {Φ : Spec} {G : Nat → V} {ls : Ls} {Q : View → Ls → Prop} {R : Post} {σ : View} {i : Nat} {r : MSs} {a : Addr} {es : List (Int × V)} (h1 : ls i = some (.ref a)) (h2 : σ a = some (.dict false es)) (k : swps Φ G r Q R (σ.del a) (ls.set i (.dct es))) : swps Φ G (.cons (.freeze i) r) Q R σ ls := by
  show ∃ a, ls i = some (.ref a) ∧ ((∃ xs, σ a = some (.list false xs) ∧ swps Φ G r Q R (σ.del a) (ls.set i (.lst xs))) ∨ (∃ es, σ a = some (.dict false es) ∧ swps Φ G r Q R (σ.del a) (ls.set i (.dct es))))
  exact ⟨a, h1, .inr ⟨es, h2, k⟩⟩
theorem cut_freezeL {Φ : Spec} {G : Nat → V} {ls : Ls} {Q : View → Ls → Prop} {R : Post} {σ : View} {i : Nat} {r : MSs} {a : Addr} {xs : List V} (h1 : ls i = some (.ref a)) (h2 : σ a = some (.list false xs)) (k : swps Φ G r Q R (σ.del a) (ls.set i (.lst xs))) : swps Φ G (.cons (.freeze i) r) Q R σ ls :=
  ⟨a, h1, .inl ⟨xs, h2, k⟩⟩
theorem upd_same {σ : View} {a : Addr} {c : Cell} (h : σ a = some c) : σ.upd a c = σ := by
  funext b; simp only [View.upd]; split
  · next e => rw [e, h]
  · rfl
noncomputable def notNone : V → Bool
  | .none => false
  | _ => true
theorem isn_none {v : V} (h : plainV v = true) : pureOp .isNot σ [v, .none] = some (.bool (notNone v)) := by
  cases v <;> first | rfl | cases h
theorem p_isn_none {v : V} {Q : Post} {σ : View} (h : plainV v = true) : prim .isNot [v, .none] Q σ ↔ Q (.bool (notNone v)) σ := by
  show (∃ d, pureOp .isNot σ [v, .none] = some d ∧ Q d σ) ↔ _
  rw [isn_none h]; exact ex_some
theorem none_of {v : V} (h : notNone v = false) : v = .none := by
  cases v <;> first | rfl | cases h
theorem p_in_d {a : Addr} {k : Int} {r : Bool} {es : List (Int × V)} {Q : Post} {σ : View} (h : σ a = some (.dict r es)) : prim .isIn [.int k, .ref a] Q σ ↔ Q (.bool (lookD k es).isSome) σ := by
  rw [p_in]; simp only [inV, dicOf, h, Option.map_some, Option.some.injEq, exists_eq_left']
noncomputable def storeD (k : Int) (b : V) (es : List (Int × V)) : List (Int × V) := match b with
  | .none => dropD k es
  | b => putD k b es
theorem storeD_some {k : Int} {b : V} {es : List (Int × V)} (h : notNone b = true) : storeD k b es = putD k b es := by
  cases b <;> first | rfl | cases h
noncomputable def storeS (xs : List V) (Q : Post) (σ : View) : Prop := ∃ a k b es, xs = [.ref a, .int k, b] ∧ plainV b = true ∧ σ a = some (.dict false es) ∧ es.length < big ∧ Q .none (σ.upd a (.dict false (storeD k b es)))
theorem storeS_mono {xs : List V} {Q Q' : Post} {σ : View} (h : storeS xs Q σ) (k : ∀ d σ', Q d σ' → Q' d σ') : storeS xs Q' σ := let ⟨a, j, b, es, h1, h2, h3, h4, h5⟩ := h; ⟨a, j, b, es, h1, h2, h3, h4, k _ _ h5⟩
noncomputable def mStore : MSs := ss [.ite (.op .isNot (es [(.var 2), (.lit .none)])) (ss [.setSub (.var 0) (.var 1) (.var 2)]) (ss [.ite (.op .isIn (es [(.var 1), (.var 0)])) (ss [.expr (.meth .popD (.var 0) (es [(.var 1)]))]) (ss [])])]
theorem storeS_ok (Φ : Spec) (Gc : Nat → V) {xs : List V} {Q : Post} {σ : View} (h : storeS xs Q σ) : xs.length = 3 ∧ swps Φ Gc mStore (fun σ' _ => Q .none σ') Q σ (argLs xs) := by
  obtain ⟨a, k, b, es, rfl, hb, ha, hl, h⟩ := h
  refine ⟨rfl, ?_⟩
  unfold mStore ss
  simp only [swps, swp, List.foldr]
  array_get_dec
  simp only [p_isn_none hb]
  array_get_dec
  cases hn : notNone b with
  | false =>
    obtain rfl := none_of hn
    simp only [storeD] at h
    simp only [Bool.false_eq_true, if_false, p_in_d ha, tr_b]
    split
    · rename_i q
      obtain ⟨v, hv⟩ := Option.isSome_iff_exists.mp q
      simp only [w_meth]
      array_get_dec
      refine ⟨⟨es, by simp [dicOf, ha]⟩, es, v, ha, hv, h⟩
    · rename_i q
      rw [drop_none (by cases hk : lookD k es with | none => rfl | some x => rw [hk] at q; simp at q), upd_same ha] at h
      exact h
  | true =>
    simp only [if_true]
    rw [storeD_some hn] at h
    exact ⟨a, k, es, rfl, rfl, ha, hl, h⟩
theorem look_store {j k : Int} {b : V} {es : List (Int × V)} (hn : (keysD es).Nodup) : lookD j (storeD k b es) = if j = k then (match b with | .none => none | b => some b) else lookD j es := by
  unfold storeD
  cases b <;> simp only [lookD_put, lookD_drop hn]
theorem nodup_store {k : Int} {b : V} {es : List (Int × V)} (hn : (keysD es).Nodup) : (keysD (storeD k b es)).Nodup := by
  unfold storeD
  split
  · exact nodup_drop hn
  · exact nodup_put hn
theorem mem_store {k : Int} {b : V} {es : List (Int × V)} {p : Int × V} (h : p ∈ storeD k b es) : p = (k, b) ∨ p ∈ es := by
  unfold storeD at h
  split at h
  · exact .inr (mem_drop h)
  · exact mem_put h
theorem len_store {k : Int} {b : V} {es : List (Int × V)} : (storeD k b es).length ≤ es.length + 1 := by
  unfold storeD
  split
  · have := len_drop_le (k := k) (es := es); omega
  · exact len_put_le
end Mine
end

section
open PySem PySem.W PySem.Calls PyProof.Rows
set_option maxRecDepth 100000
namespace Mine
noncomputable def gcs_uf020012_06 : List Str := []
/-- 0: store_block(blocks, number, block) -/
noncomputable def m_store_block : MSs := (ss [
    .ite (.op .isNot (es [(.var 2), (.lit .none)])) (ss [
      .setSub (.var 0) (.var 1) (.var 2)]) (ss [
      .ite (.op .isIn (es [(.var 1), (.var 0)])) (ss [
        .expr (.meth .popD (.var 0) (es [(.var 1)]))]) (ss [])])])
noncomputable def v_store_block : List Str := ["blocks", "number", "block"]
/-- 1: redone(blocks, log) -/
noncomputable def m_redone : MSs := (ss [
    .assign 2 (.op .dict (es [(.var 0)])),
    .assign 3 (.op .mkListM (es [])),
    .for1 (.one 4) (.seq (.var 1)) (ss [
      .ite (.op .eq (es [(.op .item (es [(.var 4), (.lit (.int 0))])), (.lit (.str (Str.ofString "block")))])) (ss [
        .expr (.meth .append (.var 3) (es [(.var 4)]))]) (ss [
        .freeze 3,
        .for1 (.one 5) (.seq (.var 3)) (ss [
          .expr (.call 0 (es [(.var 2), (.op .item (es [(.var 5), (.lit (.int 1))])), (.op .item (es [(.var 5), (.lit (.int 2))]))]))]),
        .assign 3 (.op .mkListM (es []))])]),
    .ret (.var 2)])
noncomputable def v_redone : List Str := ["blocks", "log", "now", "group", "entry", "one"]
/-- 2: _law_cell_at(_law_script, _law_k) -/
noncomputable def m_law_cell_at : MSs := (ss [
    .ite (.op .lt (es [(.var 1), (.op .len (es [(.var 0)]))])) (ss [
      .ret (.op .item (es [(.var 0), (.var 1)]))]) (ss []),
    .ret (.lit (.int 0))])
noncomputable def v_law_cell_at : List Str := ["_law_script", "_law_k"]
/-- 3: _law_entry_by(_law_cell, _law_far) -/
noncomputable def m_law_entry_by : MSs := (ss [
    .ite (.op .eq (es [(.op .mod (es [(.var 0), (.lit (.int 4))])), (.lit (.int 0))])) (ss [
      .ret (.op .mkTup (es [(.lit (.str (Str.ofString "kept")))]))]) (ss []),
    .ite (.and (es [(.op .eq (es [(.op .mod (es [(.var 0), (.lit (.int 4))])), (.lit (.int 1))])), (.op .eq (es [(.op .mod (es [(.op .div (es [(.var 0), (.lit (.int 4))])), (.lit (.int 3))])), (.lit (.int 0))]))])) (ss [
      .ret (.op .mkTup (es [(.lit (.str (Str.ofString "block"))), (.op .mul (es [(.op .mod (es [(.op .div (es [(.var 0), (.lit (.int 12))])), (.lit (.int 7))])), (.var 1)])), (.lit .none)]))]) (ss []),
    .ret (.op .mkTup (es [(.lit (.str (Str.ofString "block"))), (.op .mul (es [(.op .mod (es [(.op .div (es [(.var 0), (.lit (.int 4))])), (.lit (.int 7))])), (.var 1)])), (.op .mkTup (es [(.lit (.str (Str.ofString "leaf"))), (.op .mkTup (es [(.op .mkTup (es [(.op .mod (es [(.op .div (es [(.var 0), (.lit (.int 28))])), (.lit (.int 30))])), (.lit (.str (Str.ofString "v")))]))]))]))]))])
noncomputable def v_law_entry_by : List Str := ["_law_cell", "_law_far"]
/-- 4: _law_due(_law_blocks, _law_log) -/
noncomputable def m_law_due : MSs := (ss [
    .assign 2 (.lit (.int 0)),
    .for1 (.two 3 4) (.enum (es [(.var 1)])) (ss [
      .ite (.op .eq (es [(.var 4), (.op .mkTup (es [(.lit (.str (Str.ofString "kept")))]))])) (ss [
        .assign 2 (.var 3)]) (ss [])]),
    .assign 5 (.op .dict (es [(.var 0)])),
    .for1 (.one 4) (.seq (.op (.slice false true) (es [(.var 1), (.var 2)]))) (ss [
      .ite (.op .ne (es [(.var 4), (.op .mkTup (es [(.lit (.str (Str.ofString "kept")))]))])) (ss [
        .expr (.meth .popD2 (.var 5) (es [(.op .item (es [(.var 4), (.lit (.int 1))])), (.lit .none)])),
        .ite (.op .isNot (es [(.op .item (es [(.var 4), (.lit (.int 2))])), (.lit .none)])) (ss [
          .setSub (.var 5) (.op .item (es [(.var 4), (.lit (.int 1))])) (.op .item (es [(.var 4), (.lit (.int 2))]))]) (ss [])]) (ss [])]),
    .freeze 5,
    .ret (.var 5)])
noncomputable def v_law_due : List Str := ["_law_blocks", "_law_log", "_law_last", "_law_at", "_law_entry", "_law_found"]
/-- 5: law(_law_script) -/
noncomputable def m_law : MSs := (ss [
    .assign 1 (.op .item (es [(.op .mkList (es [(.lit (.int 1)), (.lit (.int 1)), (.op .pow (es [(.lit (.int 10)), (.lit (.int 7))]))])), (.op .mod (es [(.op .div (es [(.call 2 (es [(.var 0), (.lit (.int 0))])), (.lit (.int 35))])), (.lit (.int 3))]))])),
    .assign 2 (.dict true [] (es [])),
    .for1 (.one 3) (.range (es [(.op .mod (es [(.call 2 (es [(.var 0), (.lit (.int 0))])), (.lit (.int 5))]))])) (ss [
      .setSub (.var 2) (.op .mul (es [(.op .mod (es [(.op .add (es [(.op .div (es [(.call 2 (es [(.var 0), (.lit (.int 0))])), (.lit (.int 5))])), (.op .mul (es [(.lit (.int 2)), (.var 3)]))])), (.lit (.int 7))])), (.var 1)])) (.op .mkTup (es [(.lit (.str (Str.ofString "leaf"))), (.op .mkTup (es [(.op .mkTup (es [(.op .sub (es [(.var 3), (.lit (.int 9))])), (.lit (.str (Str.ofString "u")))]))]))]))]),
    .freeze 2,
    .assign 4 (.comp false (.call 3 (es [(.op .mod (es [(.op .mul (es [(.op .add (es [(.var 6), (.op .mul (es [(.lit (.int 17)), (.var 5)]))])), (.lit (.int 48271))])), (.lit (.int 10007))])), (.var 1)])) (.two 5 6) (.enum (es [(.op (.slice true false) (es [(.var 0), (.lit (.int 2))]))])) (es [])),
    .ite (.op .eq (es [(.op .mod (es [(.call 2 (es [(.var 0), (.lit (.int 1))])), (.lit (.int 4))])), (.lit (.int 1))])) (ss [
      .assign 4 (.op .add (es [(.var 4), (.comp false (.call 3 (es [(.op .mod (es [(.op .mul (es [(.op .add (es [(.op .div (es [(.call 2 (es [(.var 0), (.lit (.int 1))])), (.lit (.int 4))])), (.op .mul (es [(.lit (.int 91)), (.var 3)]))])), (.lit (.int 48271))])), (.lit (.int 10007))])), (.var 1)])) (.one 3) (.range (es [(.lit (.int 60))])) (es []))]))]) (ss []),
    .assign 7 (.op .dictF (es [(.var 2)])),
    .assign 8 (.op .list (es [(.var 4)])),
    .assign 9 (.call 1 (es [(.var 7), (.var 8)])),
    .ite (.or (es [(.not (.op (.isinst "dict") (es [(.var 9)]))), (.op .ne (es [(.var 9), (.call 4 (es [(.var 2), (.var 4)]))]))])) (ss [
      .ret (.lit (.bool false))]) (ss []),
    .setSub (.var 9) (.op .pow (es [(.lit (.int 10)), (.lit (.int 9))])) (.op .mkTup (es [(.lit (.str (Str.ofString "leaf"))), (.op .mkTup (es []))])),
    .ret (.and (es [(.op .eq (es [(.var 7), (.var 2)])), (.op .eq (es [(.var 8), (.var 4)]))]))])
noncomputable def v_law : List Str := ["_law_script", "_law_far", "_law_blocks", "_law_k", "_law_log", "_law_at", "_law_cell", "_law_handed", "_law_row", "_law_found"]
noncomputable def recs : List DefRec := recsOf PySem.Challenge.pw_uf020012_06
noncomputable def rcd (n : Str) : DefRec := ((recs.find? fun d => d.name == n).getD ⟨n, ⟨[], [], none, [], [], none, []⟩, [], ⟨.function, [], false, false, []⟩, default⟩)
noncomputable def tab : Tab := ⟨[⟨rcd "store_block", m_store_block, v_store_block⟩, ⟨rcd "redone", m_redone, v_redone⟩, ⟨rcd "_law_cell_at", m_law_cell_at, v_law_cell_at⟩, ⟨rcd "_law_entry_by", m_law_entry_by, v_law_entry_by⟩, ⟨rcd "_law_due", m_law_due, v_law_due⟩, ⟨rcd "law", m_law, v_law⟩], gcs_uf020012_06⟩
theorem tab_ag : tab.fns.all (agFn tab.pg) = true := by decide +kernel
end Mine
end

section
open PySem PyProof.Rows
set_option linter.unusedVariables false
namespace Mine
/-! conditions that compute: what is asked of a value is asked by a match -/
noncomputable def opt {α : Type} (o : Option α) (k : α → Prop) : Prop := match o with
  | some a => k a
  | none => False
theorem opt_ex {α : Type} {o : Option α} {k : α → Prop} (h : opt o k) : ∃ a, o = some a ∧ k a := by
  cases o with
  | none => exact h.elim
  | some a => exact ⟨a, rfl, h⟩
theorem opt_if {α : Type} {p : Prop} [Decidable p] {a : α} {k : α → Prop} (h : p) (hk : k a) : opt (if p then some a else none) k := by rw [if_pos h]; exact hk
theorem opt_of {α : Type} {o : Option α} {a : α} {k : α → Prop} (h : o = some a) (hk : k a) : opt o k := by rw [h]; exact hk
theorem opt_map {α β : Type} {o : Option α} {f : α → β} {a : α} {k : β → Prop} (h : o = some a) (hk : k (f a)) : opt (o.map f) k := by rw [h]; exact hk
noncomputable def isEff : Op → Bool
  | .listM => true
  | .dict => true
  | .append => true
  | .extend => true
  | .popL => true
  | .popD => true
  | .popD2 => true
  | .clearL => true
  | .clearD => true
  | .mkListM => true
  | _ => false
noncomputable def cprim (o : Op) (vs : List V) (Q : Post) (σ : View) : Prop := match isEff o with
  | true => prim o vs Q σ
  | false => opt (pureOp o σ vs) fun d => Q d σ
theorem cprim_prim {o : Op} {vs : List V} {Q : Post} {σ : View} (h : cprim o vs Q σ) : prim o vs Q σ := by
  cases o <;> first | exact opt_ex h | exact h
section
variable (Φ : Spec) (G : Nat → V) (ls : Ls)
mutual
noncomputable def cwp : ME → Post → View → Prop
  | .var i, Q, σ => opt (ls i) fun d => Q d σ
  | .lit d, Q, σ => Q d σ
  | .gcon k, Q, σ => Q (G k) σ
  | .op o args, Q, σ => cwps args (fun vs σ' => cprim o vs Q σ') σ
  | .meth o obj args, Q, σ => cwp obj (fun x σ₁ => methOk o x σ₁ ∧ cwps args (fun vs σ₂ => cprim o (x :: vs) Q σ₂) σ₁) σ
  | .and es, Q, σ => cwpAnd es Q σ
  | .or es, Q, σ => cwpOr es Q σ
  | .not e, Q, σ => cwp e (fun d σ' => opt (truthV d) fun b => Q (.bool (!b)) σ') σ
  | .call f args, Q, σ => cwps args (fun vs σ' => Φ f vs Q σ') σ
  | e, Q, σ => ewp Φ G ls e Q σ
noncomputable def cwps : MEs → (List V → View → Prop) → View → Prop
  | .nil, Q, σ => Q [] σ
  | .cons e es, Q, σ => cwp e (fun v σ' => cwps es (fun vs σ'' => Q (v :: vs) σ'') σ') σ
noncomputable def cwpAnd : MEs → Post → View → Prop
  | .nil, _, _ => False
  | .cons e es, Q, σ => match es with
    | .nil => cwp e Q σ
    | .cons _ _ => cwp e (fun d σ' => opt (truthV d) fun b => match b with | true => cwpAnd es Q σ' | false => Q d σ') σ
noncomputable def cwpOr : MEs → Post → View → Prop
  | .nil, _, _ => False
  | .cons e es, Q, σ => match es with
    | .nil => cwp e Q σ
    | .cons _ _ => cwp e (fun d σ' => opt (truthV d) fun b => match b with | true => Q d σ' | false => cwpOr es Q σ') σ
end
end
section
variable {Φ : Spec} {G : Nat → V} {ls : Ls}
mutual
theorem cwp_e (hM : SpecMono Φ) : ∀ (m : ME) {Q : Post} {σ : View}, cwp Φ G ls m Q σ → ewp Φ G ls m Q σ
  | .var i, Q, σ, h => opt_ex h
  | .lit d, Q, σ, h => h
  | .gcon k, Q, σ, h => h
  | .op o args, Q, σ, h => ewps_mono (Q' := fun vs σ' => prim o vs Q σ') hM args (cwps_e hM args h) fun _ _ x => cprim_prim x
  | .meth o b args, Q, σ, h => ewp_mono (Q' := fun x σ₁ => methOk o x σ₁ ∧ ewps Φ G ls args (fun vs σ₂ => prim o (x :: vs) Q σ₂) σ₁) hM b (cwp_e hM b h) fun _ _ x => ⟨x.1, ewps_mono hM args (cwps_e hM args x.2) fun _ _ x => cprim_prim x⟩
  | .and es, Q, σ, h => cwpAnd_e hM es h
  | .or es, Q, σ, h => cwpOr_e hM es h
  | .not e, Q, σ, h => ewp_mono (Q' := fun d σ' => ∃ b, truthV d = some b ∧ Q (.bool (!b)) σ') hM e (cwp_e hM e h) fun _ _ x => opt_ex x
  | .call f args, Q, σ, h => cwps_e hM args h
  | .dict _ _ _, Q, σ, h => h
  | .cmp2 _ _ _ _ _, Q, σ, h => h
  | .comp _ _ _ _ _, Q, σ, h => h
  | .frz _, Q, σ, h => h
theorem cwps_e (hM : SpecMono Φ) : ∀ (ms : MEs) {Q : List V → View → Prop} {σ : View}, cwps Φ G ls ms Q σ → ewps Φ G ls ms Q σ
  | .nil, Q, σ, h => h
  | .cons e es, Q, σ, h => ewp_mono (Q' := fun v σ' => ewps Φ G ls es (fun vs σ'' => Q (v :: vs) σ'') σ') hM e (cwp_e hM e h) fun _ _ x => cwps_e hM es x
theorem cwpAnd_e (hM : SpecMono Φ) : ∀ (ms : MEs) {Q : Post} {σ : View}, cwpAnd Φ G ls ms Q σ → ewpAnd Φ G ls ms Q σ
  | .nil, Q, σ, h => h
  | .cons e .nil, Q, σ, h => cwp_e hM e h
  | .cons e (.cons e2 es), Q, σ, h => ewp_mono (Q' := fun d σ' => ∃ b, truthV d = some b ∧ (if b then ewpAnd Φ G ls (.cons e2 es) Q σ' else Q d σ')) hM e (cwp_e hM e h) fun d σ' x => by
    obtain ⟨b, h1, h2⟩ := opt_ex x
    refine ⟨b, h1, ?_⟩
    cases b with
    | true => exact cwpAnd_e hM (.cons e2 es) h2
    | false => exact h2
theorem cwpOr_e (hM : SpecMono Φ) : ∀ (ms : MEs) {Q : Post} {σ : View}, cwpOr Φ G ls ms Q σ → ewpOr Φ G ls ms Q σ
  | .nil, Q, σ, h => h
  | .cons e .nil, Q, σ, h => cwp_e hM e h
  | .cons e (.cons e2 es), Q, σ, h => ewp_mono (Q' := fun d σ' => ∃ b, truthV d = some b ∧ (if b then Q d σ' else ewpOr Φ G ls (.cons e2 es) Q σ')) hM e (cwp_e hM e h) fun d σ' x => by
    obtain ⟨b, h1, h2⟩ := opt_ex x
    refine ⟨b, h1, ?_⟩
    cases b with
    | true => exact h2
    | false => exact cwpOr_e hM (.cons e2 es) h2
end
noncomputable def ctwp (Φ : Spec) (G : Nat → V) (ls : Ls) (e : ME) (Q : Bool → View → Prop) (σ : View) : Prop := cwp Φ G ls e (fun d σ' => opt (truthV d) fun b => Q b σ') σ
theorem ctwp_t (hM : SpecMono Φ) {e : ME} {Q : Bool → View → Prop} {σ : View} (h : ctwp Φ G ls e Q σ) : twp Φ G ls e Q σ := ewp_mono (Q' := fun d σ' => ∃ b, truthV d = some b ∧ Q b σ') hM e (cwp_e hM e h) fun _ _ x => opt_ex x
/-! cuts -/
variable {Q : View → Ls → Prop} {R : Post} {σ : View} {r : MSs}
theorem c_assign (hM : SpecMono Φ) {i : Nat} {e : ME} (P : V → Prop) (h : cwp Φ G ls e (fun d σ' => σ' = σ ∧ P d) σ) (k : ∀ d, P d → swps Φ G r Q R σ (ls.set i d)) : swps Φ G (.cons (.assign i e) r) Q R σ ls := cut_assign hM P (cwp_e hM e h) k
theorem c_if_assign (hM : SpecMono Φ) {i : Nat} {t e : ME} (P : V → Prop) (h : ctwp Φ G ls t (fun c σ' => σ' = σ ∧ match c with | true => cwp Φ G ls e (fun d σ' => σ' = σ ∧ P d) σ | false => opt (ls i) P) σ) (k : ∀ d, P d → swps Φ G r Q R σ (ls.set i d)) : swps Φ G (.cons (.ite t (.cons (.assign i e) .nil) .nil) r) Q R σ ls := by
  refine cut_if_assign hM P (ewp_mono hM t (ctwp_t hM h) fun d σ' ⟨b, h1, h2, h3⟩ => ⟨b, h1, h2, ?_⟩) k
  cases b with
  | true => exact cwp_e hM e h3
  | false => exact opt_ex h3
theorem c_guard (hM : SpecMono Φ) {t : ME} {a : MSs} (h : ctwp Φ G ls t (fun c σ' => σ' = σ ∧ c = false) σ) (k : swps Φ G r Q R σ ls) : swps Φ G (.cons (.ite t a .nil) r) Q R σ ls := cut_guard hM (ctwp_t hM h) k
theorem c_ite_ret (hM : SpecMono Φ) {t e : ME} {b : MSs} (h : ctwp Φ G ls t (fun c σ' => σ' = σ ∧ c = true) σ) (k : cwp Φ G ls e R σ) : swps Φ G (.cons (.ite t (.cons (.ret e) .nil) b) r) Q R σ ls := cut_ite_ret hM (ctwp_t hM h) (cwp_e hM e k)
theorem c_ret (hM : SpecMono Φ) {e : ME} (k : cwp Φ G ls e R σ) : swps Φ G (.cons (.ret e) r) Q R σ ls := cwp_e hM e k
theorem c_expr (hM : SpecMono Φ) {e : ME} (k : cwp Φ G ls e (fun _ σ' => swps Φ G r Q R σ' ls) σ) : swps Φ G (.cons (.expr e) r) Q R σ ls := cwp_e hM e k
theorem c_set (hM : SpecMono Φ) {o k e : ME} (h : cwp Φ G ls e (fun d σ₁ => cwp Φ G ls o (fun x σ₂ => cwp Φ G ls k (fun y σ₃ => ∃ a j es, x = .ref a ∧ y = .int j ∧ σ₃ a = some (.dict false es) ∧ es.length < big ∧ swps Φ G r Q R (σ₃.upd a (.dict false (putD j d es))) ls) σ₂) σ₁) σ) : swps Φ G (.cons (.setSub o k e) r) Q R σ ls :=
  ewp_mono hM e (cwp_e hM e h) fun _ _ x => ewp_mono hM o (cwp_e hM o x) fun _ _ y => cwp_e hM k y
theorem c_any (hM : SpecMono Φ) {i : Nat} {e : ME} (h : cwp Φ G ls e (fun d σ' => swps Φ G r Q R σ' (ls.set i d)) σ) : swps Φ G (.cons (.assign i e) r) Q R σ ls := cwp_e hM e h
theorem c_for_r (hM : SpecMono Φ) {i : Nat} {e : ME} {b : MSs} {n : Int} (I : Nat → View → Ls → Prop) (he : cwp Φ G ls e (fun d σ' => σ' = σ ∧ d = .int n) σ) (h0 : 0 ≤ n) (h1 : n < 2 ^ 62) (hI : I 0 σ ls)
    (hs : ∀ k, k < n.toNat → ∀ σ₂ ls₂, I k σ₂ ls₂ → swps Φ G b (fun σ₃ ls₃ => I (k + 1) σ₃ ls₃) R σ₂ (ls₂.set i (.int (k : Nat)))) (hk : ∀ σ₂ ls₂, I n.toNat σ₂ ls₂ → swps Φ G r Q R σ₂ ls₂) : swps Φ G (.cons (.for1 (.one i) (.range (.cons e .nil)) b) r) Q R σ ls := by
  refine ewp_mono (Q' := fun d σ' => itWp 1 [d] (fun xs u σ₁ => _) σ') hM e (cwp_e hM e he) fun d σ' ⟨e1, e2⟩ => ?_
  subst e1; subst e2
  rw [it_rng h0 h1]
  refine ⟨I, hI, fun k v σ₂ ls₂ hv hk2 => ?_, fun σ₂ ls₂ h => ?_⟩
  · obtain ⟨hk3, rfl⟩ := range_get hv
    exact hs k hk3 σ₂ ls₂ hk2
  · rw [List.length_map, List.length_range] at h; exact hk σ₂ ls₂ h
theorem c_for_l (hM : SpecMono Φ) {i : Nat} {e : ME} {b : MSs} {xs : List V} (I : Nat → View → Ls → Prop) (he : cwp Φ G ls e (fun d σ' => σ' = σ ∧ (d = .lst xs ∨ d = .tup xs)) σ) (hI : I 0 σ ls)
    (hs : ∀ k v, xs[k]? = some v → ∀ σ₂ ls₂, I k σ₂ ls₂ → swps Φ G b (fun σ₃ ls₃ => I (k + 1) σ₃ ls₃) R σ₂ (ls₂.set i v)) (hk : ∀ σ₂ ls₂, I xs.length σ₂ ls₂ → swps Φ G r Q R σ₂ ls₂) : swps Φ G (.cons (.for1 (.one i) (.seq e) b) r) Q R σ ls := by
  refine ewp_mono (Q' := fun d σ' => itWp 0 [d] (fun xs u σ₁ => _) σ') hM e (cwp_e hM e he) fun d σ' ⟨e1, e2⟩ => ?_
  subst e1
  rcases e2 with rfl | rfl
  · rw [it_lst]; exact ⟨I, hI, fun k v σ₂ ls₂ hv h => hs k v hv σ₂ ls₂ h, hk⟩
  · rw [it_tup]; exact ⟨I, hI, fun k v σ₂ ls₂ hv h => hs k v hv σ₂ ls₂ h, hk⟩
theorem it_enm {xs : List V} {Qi : List V → List V → View → Prop} : itWp 2 [.lst xs] Qi σ ↔ Qi (xs.mapIdx enumV) [.lst xs] σ := ⟨fun ⟨_, e, h⟩ => by have e : xs.mapIdx enumV = _ := Option.some.inj e; rw [e]; exact h, fun h => ⟨_, rfl, h⟩⟩
theorem c_for_e (hM : SpecMono Φ) {i j : Nat} {e : ME} {b : MSs} {xs : List V} (I : Nat → View → Ls → Prop) (he : cwp Φ G ls e (fun d σ' => σ' = σ ∧ d = .lst xs) σ) (hI : I 0 σ ls)
    (hs : ∀ k v, xs[k]? = some v → ∀ σ₂ ls₂, I k σ₂ ls₂ → swps Φ G b (fun σ₃ ls₃ => I (k + 1) σ₃ ls₃) R σ₂ ((ls₂.set i (.int (k : Nat))).set j v)) (hk : ∀ σ₂ ls₂, I xs.length σ₂ ls₂ → swps Φ G r Q R σ₂ ls₂) : swps Φ G (.cons (.for1 (.two i j) (.enum (.cons e .nil)) b) r) Q R σ ls := by
  refine ewp_mono (Q' := fun d σ' => itWp 2 [d] (fun xs u σ₁ => _) σ') hM e (cwp_e hM e he) fun d σ' ⟨e1, e2⟩ => ?_
  subst e1; subst e2
  rw [it_enm]
  refine ⟨I, hI, fun k v σ₂ ls₂ hv h => ?_, fun σ₂ ls₂ h => ?_⟩
  · rw [List.getElem?_mapIdx, Option.map_eq_some_iff] at hv
    obtain ⟨x, hx, rfl⟩ := hv
    exact hs k x hx σ₂ ls₂ h
  · rw [List.length_mapIdx] at h; exact hk σ₂ ls₂ h
/-- a comprehension whose items all have a property -/
theorem comp_P {elt : ME} {t : Tg} {xs u : List V} {Qp : Post} (P : V → Prop) (hu : lockV σ u = σ ∧ unlockV σ u σ = σ) (hb : xs.length ≤ big) (h : ∀ (k : Nat) v, xs[k]? = some v → ewp Φ G (t.up v ls) elt (fun d σ₄ => σ₄ = σ ∧ P d) σ) (hM : SpecMono Φ)
    (hQ : ∀ l : List V, l.length = xs.length → (∀ x ∈ l, P x) → Qp (.lst l) σ) : xs.length ≤ big ∧ ∃ I : Nat → List V → View → Prop, I 0 [] (lockV σ u) ∧
      (∀ k v acc σ₂, xs[k]? = some v → I k acc σ₂ → ewpIfs Φ G (t.up v ls) .nil (fun b σ₃ => if b then ewp Φ G (t.up v ls) elt (fun d σ₄ => I (k + 1) (acc ++ [d]) σ₄) σ₃ else I (k + 1) acc σ₃) σ₂) ∧
      (∀ acc σ₂, I xs.length acc σ₂ → if false then ∀ a, unlockV σ u σ₂ a = none → Qp (.ref a) ((unlockV σ u σ₂).upd a (.list false acc)) else Qp (.lst acc) (unlockV σ u σ₂)) := by
  refine ⟨hb, fun k acc σ₂ => σ₂ = σ ∧ acc.length = k ∧ ∀ x ∈ acc, P x, ⟨hu.1, rfl, fun _ h => nomatch h⟩, fun k v acc σ₂ hv hI => ?_, fun acc σ₂ hI => ?_⟩
  · obtain ⟨rfl, h2, h3⟩ := hI
    refine ewp_mono hM elt (h k v hv) fun d σ₄ hd => ⟨hd.1, by rw [List.length_append, h2]; rfl, fun x hx => ?_⟩
    rcases List.mem_append.mp hx with hx | hx
    · exact h3 x hx
    · cases hx with
      | head => exact hd.2
      | tail _ h => cases h
  · obtain ⟨rfl, h2, h3⟩ := hI
    show Qp (.lst acc) (unlockV σ₂ u σ₂)
    rw [hu.2]; exact hQ acc h2 h3
theorem w_comp_e (hM : SpecMono Φ) {e elt : ME} {x y : Nat} {xs : List V} {Qp : Post} (P : V → Prop) (he : cwp Φ G ls e (fun d σ' => σ' = σ ∧ d = .lst xs) σ) (hb : xs.length ≤ big) (h : ∀ (k : Nat) v, xs[k]? = some v → ewp Φ G ((ls.set x (.int (k : Nat))).set y v) elt (fun d σ₄ => σ₄ = σ ∧ P d) σ)
    (hQ : ∀ l : List V, l.length = xs.length → (∀ x ∈ l, P x) → Qp (.lst l) σ) : ewp Φ G ls (.comp false elt (.two x y) (.enum (.cons e .nil)) .nil) Qp σ := by
  refine ewp_mono (Q' := fun d σ' => itWp 2 [d] (fun xs u σ₁ => _) σ') hM e (cwp_e hM e he) fun d σ' ⟨e1, e2⟩ => ?_
  subst e1; subst e2
  rw [it_enm]
  refine comp_P P ⟨rfl, rfl⟩ (by rw [List.length_mapIdx]; exact hb) (fun k v hv => ?_) hM fun l h1 h2 => hQ l (by rw [h1, List.length_mapIdx]) h2
  rw [List.getElem?_mapIdx, Option.map_eq_some_iff] at hv
  obtain ⟨x, hx, rfl⟩ := hv
  exact h k x hx
theorem w_comp_rP (hM : SpecMono Φ) {e elt : ME} {x : Nat} {n : Nat} {Qp : Post} (P : V → Prop) (he : cwp Φ G ls e (fun d σ' => σ' = σ ∧ d = .int n) σ) (hb : n ≤ big) (h : ∀ k : Nat, k < n → ewp Φ G (ls.set x (.int k)) elt (fun d σ₄ => σ₄ = σ ∧ P d) σ)
    (hQ : ∀ l : List V, l.length = n → (∀ x ∈ l, P x) → Qp (.lst l) σ) : ewp Φ G ls (.comp false elt (.one x) (.range (.cons e .nil)) .nil) Qp σ := by
  refine ewp_mono (Q' := fun d σ' => itWp 1 [d] (fun xs u σ₁ => _) σ') hM e (cwp_e hM e he) fun d σ' ⟨e1, e2⟩ => ?_
  subst e1; subst e2
  rw [it_rng (by omega) (by unfold big at hb; omega)]
  refine comp_P P ⟨rfl, rfl⟩ (by simpa using hb) (fun k v hv => ?_) hM fun l h1 h2 => hQ l (by rw [h1]; simp) h2
  obtain ⟨hk, rfl⟩ := range_get hv
  exact h k (by simpa using hk)
end
/-! values that compute -/
theorem r_opt {α : Type} {a : α} {k : α → Prop} : opt (some a) k = k a := rfl
theorem r_on1 {f : V → Option V} {x : V} : on1 f [x] = f x := rfl
theorem r_on2 {f : V → V → Option V} {x y : V} : on2 f [x, y] = f x y := rfl
theorem r_on3 {f : V → V → V → Option V} {x y z : V} : on3 f [x, y, z] = f x y z := rfl
theorem r_int1 {f : Int → Option V} {a : Int} : int1 f (.int a) = f a := rfl
theorem r_bool1 {f : Bool → Option V} {a : Bool} : bool1 f (.bool a) = f a := rfl
theorem r_str1 {f : Str → Option V} {a : Str} : str1 f (.str a) = f a := rfl
theorem r_tr {a : Bool} : truthV (.bool a) = some a := rfl
theorem r_map {α β : Type} {a : α} {f : α → β} : Option.map f (some a) = some (f a) := rfl
theorem r_eq_i {σ : View} {a b : Int} : eqV σ (.int a) (.int b) = some (decide (a = b)) := rfl
theorem r_eq_s {σ : View} {a b : Str} : eqV σ (.str a) (.str b) = some (decide (a = b)) := rfl
theorem r_ord_i {f : Int → Int → Bool} {g : Str → Str → Bool} {a b : Int} : ordV f g [.int a, .int b] = some (.bool (f a b)) := rfl
theorem r_ord_s {f : Int → Int → Bool} {g : Str → Str → Bool} {a b : Str} : ordV f g [.str a, .str b] = some (.bool (g a b)) := rfl
theorem r_add_i {σ : View} {a b : Int} : addV σ (.int a) (.int b) = some (.int (a + b)) := rfl
theorem r_mul_i {σ : View} {a b : Int} : mulV σ (.int a) (.int b) = if mulFits a b then some (.int (a * b)) else none := rfl
theorem r_len_l {σ : View} {xs : List V} : lenOf σ (.lst xs) = some xs.length := rfl
theorem r_len_t {σ : View} {xs : List V} : lenOf σ (.tup xs) = some xs.length := rfl
theorem r_li_l {σ : View} {xs : List V} : listItems σ (.lst xs) = some xs := rfl
theorem r_li_t {σ : View} {xs : List V} : listItems σ (.tup xs) = some xs := rfl
theorem r_sq_l {σ : View} {xs : List V} : seqOf σ (.lst xs) = some xs := rfl
theorem r_sq_t {σ : View} {xs : List V} : seqOf σ (.tup xs) = some xs := rfl
theorem r_it_l {σ : View} {xs : List V} {i : Int} : itemV σ (.lst xs) (.int i) = (idxOf i xs.length).bind fun j => xs[j]? := rfl
theorem r_it_t {σ : View} {xs : List V} {i : Int} : itemV σ (.tup xs) (.int i) = (idxOf i xs.length).bind fun j => xs[j]? := rfl
theorem r_it_t0 {σ : View} {x : V} {xs : List V} : itemV σ (.tup (x :: xs)) (.int 0) = some x := by
  rw [r_it_t, show idxOf 0 (x :: xs).length = some 0 from idxOf_nat (n := 0) (by simp)]; rfl
end Mine
end

section
open PySem PySem.W PySem.Calls PyProof.Rows
set_option maxRecDepth 100000
set_option linter.unusedSimpArgs false
set_option linter.unusedVariables false
namespace Mine
local macro_rules | `(tactic| sizeOf_list_dec) => `(tactic| repeat (first | dsimp only [ctwp, cwp, cwps, cwpAnd, cwpOr, cprim, isEff, r_opt, pureOp, r_on1, r_on2, r_on3, r_int1, int2, r_bool1, r_str1, es, ss, List.foldr, set_get, argLs, r_tr, r_eq_i, r_eq_s, r_ord_i, r_ord_s, r_add_i, r_mul_i, r_len_l, r_len_t, r_li_l, r_li_t, r_sq_l, r_sq_t, r_it_l, r_it_t, r_map, List.getElem?_cons_zero, List.getElem?_cons_succ, ↓reduceIte, Nat.reduceEqDiff, Int.toNat] | refine opt_if (by decide) ?_ | refine opt_of (o := ite _ _ _) rfl ?_ | refine opt_of (o := Option.bind _ _) rfl ?_))
/-- an entry of a log -/
inductive Ent : V → Prop
  | kept : Ent (.tup [.str (Str.ofString "kept")])
  | blk (k : Int) (b : V) (h : Dat 8 b) : Ent (.tup [.str (Str.ofString "block"), .int k, b])
noncomputable def isKept : V → Bool
  | .tup [_] => true
  | _ => false
noncomputable def stE (ds : List (Int × V)) : V → List (Int × V)
  | .tup [_, .int k, b] => storeD k b ds
  | _ => ds
noncomputable def putN (k : Int) (b : V) (es : List (Int × V)) : List (Int × V) := match b with
  | .none => es
  | b => putD k b es
noncomputable def poE (ds : List (Int × V)) : V → List (Int × V)
  | .tup [_, .int k, b] => putN k b (dropD k ds)
  | _ => ds
theorem putN_some {k : Int} {b : V} {es : List (Int × V)} (h : notNone b = true) : putN k b es = putD k b es := by
  cases b <;> first | rfl | cases h
theorem look_putN {j k : Int} {b : V} {es : List (Int × V)} : lookD j (putN k b es) = if j = k then (match b with | .none => lookD j es | b => some b) else lookD j es := by
  unfold putN
  cases b <;> simp only [lookD_put, ite_self]
theorem nodup_putN {k : Int} {b : V} {es : List (Int × V)} (hn : (keysD es).Nodup) : (keysD (putN k b es)).Nodup := by
  unfold putN
  split
  · exact hn
  · exact nodup_put hn
theorem kept_st {x : V} {ds : List (Int × V)} (h : isKept x = true) : stE ds x = ds ∧ poE ds x = ds := by
  unfold isKept at h
  split at h
  · exact ⟨rfl, rfl⟩
  · cases h
theorem same_step {x : V} (hx : Ent x) {a b : List (Int × V)} (ha : (keysD a).Nodup) (hb : (keysD b).Nodup) (h : ∀ j, lookD j a = lookD j b) :
    (keysD (stE a x)).Nodup ∧ (keysD (poE b x)).Nodup ∧ ∀ j, lookD j (stE a x) = lookD j (poE b x) := by
  cases hx with
  | kept => exact ⟨ha, hb, h⟩
  | blk k c hc =>
    refine ⟨nodup_store ha, nodup_putN (nodup_drop hb), fun j => ?_⟩
    show lookD j (storeD k c a) = lookD j (putN k c (dropD k b))
    rw [look_store ha, look_putN, lookD_drop hb, h]
    by_cases q : j = k
    · subst q
      simp only [if_true]
      all_goals (cases c <;> rfl)
    · simp only [q, if_false]
theorem same_all : ∀ {L : List V}, (∀ x ∈ L, Ent x) → ∀ {a b : List (Int × V)}, (keysD a).Nodup → (keysD b).Nodup → (∀ j, lookD j a = lookD j b) →
    (keysD (L.foldl stE a)).Nodup ∧ (keysD (L.foldl poE b)).Nodup ∧ ∀ j, lookD j (L.foldl stE a) = lookD j (L.foldl poE b)
  | [], _, _, _, ha, hb, h => ⟨ha, hb, h⟩
  | x :: L, hL, _, _, ha, hb, h => by
    obtain ⟨h1, h2, h3⟩ := same_step (hL x (.head _)) ha hb h
    exact same_all (fun y hy => hL y (.tail _ hy)) h1 h2 h3
theorem stE_len {x : V} {ds : List (Int × V)} : (stE ds x).length ≤ ds.length + 1 := by
  unfold stE
  split
  · exact len_store
  · exact Nat.le_succ _
theorem fold_len : ∀ {L : List V} {ds : List (Int × V)}, (L.foldl stE ds).length ≤ ds.length + L.length
  | [], ds => Nat.le_refl _
  | x :: L, ds => by
    have h1 := fold_len (L := L) (ds := stE ds x)
    have h2 := stE_len (x := x) (ds := ds)
    simp only [List.foldl_cons, List.length_cons]; omega
theorem po_len : ∀ {L : List V} {ds : List (Int × V)}, (L.foldl poE ds).length ≤ ds.length + L.length
  | [], ds => Nat.le_refl _
  | x :: L, ds => by
    have h1 := po_len (L := L) (ds := poE ds x)
    have h2 : (poE ds x).length ≤ ds.length + 1 := by
      unfold poE
      split
      · rename_i k b
        have := len_drop_le (k := k) (es := ds)
        unfold putN
        split
        · omega
        · have := len_put_le (k := k) (v := b) (es := dropD k ds); omega
      · exact Nat.le_succ _
    simp only [List.foldl_cons, List.length_cons]; omega
theorem stE_dat {x : V} (hx : Ent x) {ds : List (Int × V)} (h : ∀ p ∈ ds, Dat 20 p.2) : ∀ p ∈ stE ds x, Dat 20 p.2 := by
  cases hx with
  | kept => exact h
  | blk k c hc =>
    intro p hp
    rcases mem_store hp with rfl | hp
    · exact hc.mono (by decide)
    · exact h p hp
theorem fold_dat : ∀ {L : List V}, (∀ x ∈ L, Ent x) → ∀ {ds : List (Int × V)}, (∀ p ∈ ds, Dat 20 p.2) → ∀ p ∈ L.foldl stE ds, Dat 20 p.2
  | [], _, _, h => h
  | x :: L, hL, _, h => fold_dat (fun y hy => hL y (.tail _ hy)) (stE_dat (hL x (.head _)) h)
/-- the entries up to the last mark -/
noncomputable def upto (l : List V) : List V := (l.reverse.dropWhile fun x => !isKept x).reverse
theorem upto_snoc (l : List V) (x : V) : upto (l ++ [x]) = if isKept x = true then l ++ [x] else upto l := by
  unfold upto
  rw [List.reverse_append]
  cases h : isKept x <;> simp [List.dropWhile, h]
theorem upto_pre (l : List V) : ∃ g, l = upto l ++ g := by
  refine ⟨(l.reverse.takeWhile fun x => !isKept x).reverse, ?_⟩
  unfold upto
  rw [← List.reverse_append, List.takeWhile_append_dropWhile, List.reverse_reverse]
theorem upto_last (l : List V) : upto l = [] ∨ ∃ L x, upto l = L ++ [x] ∧ isKept x = true := by
  unfold upto
  generalize l.reverse = r
  induction r with
  | nil => exact .inl rfl
  | cons x r ih =>
    cases h : isKept x with
    | true => simp only [List.dropWhile_cons, h, Bool.not_true, Bool.false_eq_true, if_false, List.reverse_cons]; exact .inr ⟨_, x, rfl, h⟩
    | false => simp only [List.dropWhile_cons, h, Bool.not_false, if_true]; exact ih
noncomputable def dueOf (es : List (Int × V)) (l : List V) : List (Int × V) := (l.take ((upto l).length - 1)).foldl poE es
theorem due_upto (es : List (Int × V)) (l : List V) : dueOf es l = (upto l).foldl poE es := by
  unfold dueOf
  obtain ⟨g, hg⟩ := upto_pre l
  rcases upto_last l with h | ⟨L, x, h, hx⟩
  · rw [h]; rfl
  · have e : l.take ((upto l).length - 1) = L := by
      rw [h, List.length_append]
      conv => lhs; arg 2; rw [hg, h]
      simp
    rw [e, h, List.foldl_append]
    exact (kept_st hx).2.symm
noncomputable def Φ06 : Spec := fun f xs Q σ => match f with
  | 0 => storeS xs Q σ
  | 1 => ∃ es l, xs = [.dct es, .lst l] ∧ (∀ x ∈ l, Ent x) ∧ es.length + l.length < 1000 ∧ ∀ σ' a, σ' a = some (.dict false ((upto l).foldl stE es)) → Q (.ref a) σ'
  | 2 => cellS xs Q σ
  | 3 => ∃ c f, xs = [.int c, .int f] ∧ 0 ≤ f ∧ f ≤ 10 ^ 7 ∧ ∀ d, Ent d → Q d σ
  | 4 => ∃ es l, xs = [.dct es, .lst l] ∧ (∀ x ∈ l, Ent x) ∧ es.length + l.length < 1000 ∧ Q (.dct (dueOf es l)) σ
  | _ => False
theorem mono06 : SpecMono Φ06 := by
  intro f vs Q Q' σ h k
  unfold Φ06 at h ⊢
  split at h
  · exact storeS_mono h k
  · obtain ⟨es, l, h1, h2, h3, h4⟩ := h; exact ⟨es, l, h1, h2, h3, fun σ' a x => k _ _ (h4 σ' a x)⟩
  · exact cellS_mono h k
  · obtain ⟨c, n, h1, h2, h3, h4⟩ := h; exact ⟨c, n, h1, h2, h3, fun l a => k _ _ (h4 l a)⟩
  · obtain ⟨es, l, h1, h2, h3, h4⟩ := h; exact ⟨es, l, h1, h2, h3, k _ _ h4⟩
  · exact h.elim
theorem s_kb : ¬ Str.ofString "kept" = Str.ofString "block" := by decide +kernel
theorem eq_kept {σ : View} {x : V} (hx : Ent x) : eqV σ x (.tup [.str (Str.ofString "kept")]) = some (isKept x) := by
  cases hx with
  | kept => simp [eqV, V.toD, PyData.eqv, PyData.eqvAll, isKept]
  | blk k b hb =>
    obtain ⟨a, h1, h2⟩ := (hb.mono (m := 19) (by decide)).toD (σ := σ)
    simp [eqV, V.toD, h1, PyData.eqv, PyData.eqvAll, isKept]
theorem take_succ {l : List V} {k : Nat} {v : V} (hv : l[k]? = some v) : l.take (k + 1) = l.take k ++ [v] := by rw [List.take_add_one, hv]; rfl
theorem redone_ok (Gc : Nat → V) {xs : List V} {Q : Post} {σ : View} (h : Φ06 1 xs Q σ) : xs.length = 2 ∧ swps (below Φ06 1) Gc m_redone (fun σ' _ => Q .none σ') Q σ (argLs xs) := by
  have hM : SpecMono (below Φ06 1) := below_mono mono06 1
  obtain ⟨es, l, rfl, hE, hes, h⟩ := h
  refine ⟨rfl, ?_⟩
  unfold m_redone ss
  simp only [List.foldr]
  refine c_any hM ?_
  refine ⟨es, rfl, fun a ha => ?_⟩
  refine c_any hM ?_
  refine ⟨by decide, fun b hb => ?_⟩
  have hab : a ≠ b := by rintro rfl; rw [upd_self] at hb; cases hb
  refine c_for_l hM (xs := l) (fun k σ' ls' => ∃ b g, a ≠ b ∧ σ' a = some (.dict false ((upto (l.take k)).foldl stE es)) ∧ σ' b = some (.list false g) ∧ l.take k = upto (l.take k) ++ g ∧ (∀ x ∈ g, isKept x = false) ∧ ls' 2 = some (.ref a) ∧ ls' 3 = some (.ref b)) ⟨rfl, .inl rfl⟩
    ⟨b, [], hab, by rw [upd_ne hab, upd_self]; rfl, upd_self _ _ _, rfl, (fun _ h => nomatch h), rfl, rfl⟩ ?_ ?_
  · rintro k v hv σ' ls' ⟨b, g, hab, h1, h2, h3, hg, l2, l3⟩
    have hm : v ∈ l := List.mem_iff_getElem?.mpr ⟨k, hv⟩
    have ht := take_succ hv
    have hgl : g.length ≤ l.length := by
      have := congrArg List.length h3
      simp only [List.length_append, List.length_take] at this; omega
    cases hE v hm with
    | blk j bl hbl =>
      refine ctwp_t hM ?_
      sizeOf_list_dec
      rw [if_pos (decide_eq_true rfl)]
      refine c_expr hM (r := .nil) (opt_of l3 ⟨⟨b, false, g, rfl, h2⟩, ?_⟩)
      sizeOf_list_dec
      have hu : upto (l.take (k + 1)) = upto (l.take k) := by rw [ht, upto_snoc]; rfl
      refine ⟨g, h2, by unfold big; omega, b, g ++ [_], hab, ?_, upd_self _ _ _, ?_, fun x hx => ?_, l2, l3⟩
      · rw [upd_ne hab, h1, hu]
      · rw [hu, ht, h3, List.append_assoc, ← h3]
      · rcases List.mem_append.mp hx with hx | hx
        · exact hg x hx
        · cases hx with
          | head => rfl
          | tail _ h => cases h
    | kept =>
      refine ctwp_t hM ?_
      sizeOf_list_dec
      rw [if_neg (by rw [decide_eq_false s_kb]; decide)]
      have hu : upto (l.take (k + 1)) = l.take (k + 1) := by rw [ht, upto_snoc]; rfl
      refine cut_freezeL (i := 3) l3 h2 ?_
      have h1' : (σ'.del b) a = some (.dict false ((upto (l.take k)).foldl stE es)) := by rw [del_ne hab]; exact h1
      refine c_for_l hM (xs := g) (fun i σ₂ ls₂ => σ₂ a = some (.dict false ((g.take i).foldl stE ((upto (l.take k)).foldl stE es))) ∧ ls₂ 2 = some (.ref a)) ⟨rfl, .inl rfl⟩ ⟨h1', l2⟩ ?_ ?_
      · rintro i w hw σ₂ ls₂ ⟨h4, l2⟩
        have hwm : w ∈ l := by
          have : w ∈ l.take k := by rw [h3]; exact List.mem_append_right _ (List.mem_iff_getElem?.mpr ⟨i, hw⟩)
          exact List.mem_of_mem_take this
        have ht2 := take_succ hw
        have hlen : ((g.take i).foldl stE ((upto (l.take k)).foldl stE es)).length < big := by
          have q1 := fold_len (L := g.take i) (ds := (upto (l.take k)).foldl stE es)
          have q2 := fold_len (L := upto (l.take k)) (ds := es)
          have q3 := congrArg List.length h3
          simp only [List.length_append, List.length_take] at q1 q3
          unfold big; omega
        refine c_expr hM (r := .nil) (opt_of l2 ?_)
        cases hE w hwm with
        | kept => exact ff2 (hg _ (List.mem_iff_getElem?.mpr ⟨i, hw⟩))
        | blk j bl hbl =>
          sizeOf_list_dec
          refine ⟨by decide, a, j, bl, _, rfl, hbl.plain, h4, hlen, ?_, l2⟩
          rw [upd_self, ht2, List.foldl_append]; rfl
      · rintro σ₂ ls₂ ⟨h4, l2⟩
        refine c_any hM (r := .nil) ⟨by decide, fun c hc => ?_⟩
        have hac : a ≠ c := by rintro rfl; rw [h4] at hc; cases hc
        refine ⟨c, [], hac, ?_, upd_self _ _ _, by rw [hu, List.append_nil], (fun _ h => nomatch h), l2, rfl⟩
        rw [upd_ne hac, h4, hu, ht, List.take_length, ← List.foldl_append, ← h3, List.foldl_append]; rfl
  · rintro σ' ls' ⟨b, g, hab, h1, h2, h3, hg, l2, l3⟩
    rw [List.take_length] at h1
    exact c_ret hM (opt_of l2 (h _ a h1))
theorem dat_leaf (s : Str) (k : Int) (t : Str) : Dat 8 (.tup [.str s, .tup [.tup [.int k, .str t]]]) := by
  refine .tup fun x hx => ?_
  simp only [List.mem_cons, List.not_mem_nil, or_false] at hx
  rcases hx with rfl | rfl
  · exact .str _
  · refine .tup fun x hx => ?_
    simp only [List.mem_cons, List.not_mem_nil, or_false] at hx
    subst hx
    refine .tup fun x hx => ?_
    simp only [List.mem_cons, List.not_mem_nil, or_false] at hx
    rcases hx with rfl | rfl
    · exact .int _
    · exact .str _
theorem small7 {c : Int} : -(2 ^ 63) ≤ c % 7 ∧ c % 7 < 2 ^ 63 := by omega
theorem entry_ok (Φ : Spec) (hM : SpecMono Φ) (Gc : Nat → V) {xs : List V} {Q : Post} {σ : View} (h : Φ06 3 xs Q σ) : xs.length = 2 ∧ swps Φ Gc m_law_entry_by (fun σ' _ => Q .none σ') Q σ (argLs xs) := by
  obtain ⟨c, f, rfl, h0, h1, h⟩ := h
  refine ⟨rfl, ?_⟩
  unfold m_law_entry_by ss
  simp only [List.foldr]
  by_cases q : c % 4 = 0
  · refine c_ite_ret hM ?_ ?_
    · sizeOf_list_dec
      exact ⟨rfl, decide_eq_true q⟩
    · sizeOf_list_dec
      exact h _ .kept
  refine c_guard hM ?_ ?_
  · sizeOf_list_dec
    exact ⟨rfl, decide_eq_false q⟩
  by_cases q2 : c % 4 = 1 ∧ c / 4 % 3 = 0
  · refine c_ite_ret hM ?_ ?_
    · sizeOf_list_dec
      rw [decide_eq_true q2.1]
      sizeOf_list_dec
      exact ⟨rfl, decide_eq_true q2.2⟩
    · sizeOf_list_dec
      refine opt_if (mulFits_left small7.1 small7.2) ?_
      sizeOf_list_dec
      exact h _ (.blk _ _ .none)
  refine c_guard hM ?_ ?_
  · sizeOf_list_dec
    by_cases q3 : c % 4 = 1
    · rw [decide_eq_true q3]
      sizeOf_list_dec
      exact ⟨rfl, decide_eq_false fun q4 => q2 ⟨q3, q4⟩⟩
    · rw [decide_eq_false q3]
      exact ⟨rfl, rfl⟩
  refine c_ret hM ?_
  sizeOf_list_dec
  refine opt_if (mulFits_left small7.1 small7.2) ?_
  sizeOf_list_dec
  exact h _ (.blk _ _ (dat_leaf _ _ _))
theorem due_ok (Φ : Spec) (hM : SpecMono Φ) (Gc : Nat → V) {xs : List V} {Q : Post} {σ : View} (h : Φ06 4 xs Q σ) : xs.length = 2 ∧ swps Φ Gc m_law_due (fun σ' _ => Q .none σ') Q σ (argLs xs) := by
  obtain ⟨es, l, rfl, hE, hes, h⟩ := h
  refine ⟨rfl, ?_⟩
  unfold m_law_due ss
  simp only [List.foldr]
  refine c_assign hM (fun d => d = .int 0) ⟨rfl, rfl⟩ ?_
  rintro _ rfl
  refine c_for_e hM (xs := l) (fun k σ' ls' => σ' = σ ∧ ls' 0 = some (.dct es) ∧ ls' 1 = some (.lst l) ∧ ls' 2 = some (.int (((upto (l.take k)).length - 1 : Nat) : Int))) ⟨rfl, rfl⟩ ⟨rfl, rfl, rfl, rfl⟩ ?_ ?_
  · rintro k v hv σ' ls' ⟨rfl, l0, l1, l2⟩
    have hm : v ∈ l := List.mem_iff_getElem?.mpr ⟨k, hv⟩
    have ht := take_succ hv
    have hkl : k < l.length := (List.getElem?_eq_some_iff.mp hv).1
    cases hk : isKept v with
    | true =>
      have hu : upto (l.take (k + 1)) = l.take (k + 1) := by rw [ht, upto_snoc, if_pos hk]
      have hn : (upto (l.take (k + 1))).length - 1 = k := by rw [hu, List.length_take]; omega
      refine ctwp_t hM ?_
      sizeOf_list_dec
      refine opt_map (eq_kept (hE v hm)) ?_
      sizeOf_list_dec
      rw [if_pos hk]
      refine c_any hM (r := .nil) ?_
      sizeOf_list_dec
      exact ⟨rfl, l0, l1, by rw [hn]; rfl⟩
    | false =>
      have hu : upto (l.take (k + 1)) = upto (l.take k) := by rw [ht, upto_snoc, if_neg (by rw [hk]; decide)]
      refine c_guard hM ?_ ?_
      · sizeOf_list_dec
        refine opt_map (eq_kept (hE v hm)) ?_
        exact ⟨rfl, hk⟩
      exact ⟨rfl, l0, l1, by rw [hu]; exact l2⟩
  rintro σ' ls' ⟨rfl, l0, l1, l2⟩
  rw [List.take_length] at l2
  refine c_any hM (opt_of l0 ⟨es, rfl, fun a ha => ?_⟩)
  refine c_for_l hM (xs := l.take ((upto l).length - 1)) (fun k σ₂ ls₂ => σ₂ = σ'.upd a (.dict false (((l.take ((upto l).length - 1)).take k).foldl poE es)) ∧ ls₂ 5 = some (.ref a)) ?_ ⟨rfl, rfl⟩ ?_ ?_
  · refine opt_of l1 (opt_of l2 ?_)
    sizeOf_list_dec
    exact ⟨rfl, .inl (by rw [sliceL_take (by omega)]; rfl)⟩
  · rintro k v hv σ₂ ls₂ ⟨rfl, l5⟩
    have hm : v ∈ l := List.mem_of_mem_take (List.mem_iff_getElem?.mpr ⟨k, hv⟩)
    rw [take_succ hv, List.foldl_append]
    have hlen : (((l.take ((upto l).length - 1)).take k).foldl poE es).length < big := by
      have := po_len (L := (l.take ((upto l).length - 1)).take k) (ds := es)
      simp only [List.length_take] at this
      unfold big; omega
    generalize ((l.take ((upto l).length - 1)).take k).foldl poE es = ds at hlen ⊢
    cases hE v hm with
    | kept =>
      refine c_guard hM ?_ ?_
      · sizeOf_list_dec
        exact opt_map (eq_kept .kept) ⟨rfl, rfl⟩
      exact ⟨rfl, l5⟩
    | blk j b hb =>
      refine ctwp_t hM ?_
      sizeOf_list_dec
      refine opt_map (eq_kept (.blk j b hb)) ?_
      sizeOf_list_dec
      rw [if_pos (by rfl)]
      refine c_expr hM ?_
      refine opt_of l5 ⟨⟨ds, by simp [dicOf]⟩, ?_⟩
      sizeOf_list_dec
      refine ⟨ds, upd_self _ _ _, ?_⟩
      refine ctwp_t hM ?_
      sizeOf_list_dec
      refine opt_of (isn_none (σ := σ') hb.plain) ?_
      sizeOf_list_dec
      rw [upd_upd]
      cases hbn : notNone b with
      | false =>
        obtain rfl := none_of hbn
        rw [if_neg (by decide)]
        exact ⟨rfl, l5⟩
      | true =>
        rw [if_pos rfl]
        refine c_set hM (r := .nil) ?_
        sizeOf_list_dec
        refine opt_of l5 ?_
        sizeOf_list_dec
        have := len_drop_le (k := j) (es := ds)
        refine ⟨a, j, _, rfl, rfl, upd_self _ _ _, by omega, ?_, l5⟩
        rw [upd_upd]
        show _ = σ'.upd a (.dict false (putN j b (dropD j ds)))
        rw [putN_some hbn]
  rintro σ₂ ls₂ ⟨rfl, l5⟩
  rw [List.take_length]
  refine cut_freezeD l5 (upd_self _ _ _) ?_
  rw [del_upd ha]
  refine c_ret hM ?_
  sizeOf_list_dec
  exact h
theorem cellW {ks : List Int} (hl : ks.length ≤ 63) {j : Int} (hj : 0 ≤ j) {Q : Post} {σ : View} (h : Q (.int (cellAt ks j.toNat)) σ) : below Φ06 5 2 [.lst (ks.map .int), .int j] Q σ := ⟨by decide, ks, j, rfl, hj, hl, h⟩
theorem law_ok (ks : List Int) (hl : ks.length ≤ 63) (hb : ∀ k ∈ ks, Builtin.Int.intBits k ≤ 2 ^ 20) (Gc : Nat → V) : swps (below Φ06 5) Gc m_law (fun _ _ => V.none = .bool true) (fun d _ => d = .bool true) (fun _ => none) (argLs [.lst (ks.map .int)]) := by
  have hM : SpecMono (below Φ06 5) := below_mono mono06 5
  unfold m_law ss
  simp only [List.foldr]
  refine c_assign hM (fun d => ∃ f, 0 ≤ f ∧ f ≤ 10 ^ 7 ∧ d = .int f) ?_ ?_
  · sizeOf_list_dec
    refine cellW hl (by decide) ?_
    sizeOf_list_dec
    have hc : cellAt ks 0 / 35 % 3 = 0 ∨ cellAt ks 0 / 35 % 3 = 1 ∨ cellAt ks 0 / 35 % 3 = 2 := by omega
    rcases hc with e | e | e <;> rw [e]
    · exact ⟨rfl, 1, by decide, by decide, rfl⟩
    · exact ⟨rfl, 1, by decide, by decide, rfl⟩
    · exact ⟨rfl, 10 ^ 7, by decide, by decide, rfl⟩
  rintro _ ⟨f, f0, f1, rfl⟩
  refine cut_dict fun a ha => ?_
  refine c_for_r hM (n := cellAt ks 0 % 5) (fun j σ' ls' => ∃ ds, σ' = View.upd (fun _ => none) a (.dict false ds) ∧ ls' 0 = some (.lst (ks.map .int)) ∧ ls' 1 = some (.int f) ∧ ls' 2 = some (.ref a) ∧ ds.length ≤ j ∧ (keysD ds).Nodup ∧ ∀ p ∈ ds, Dat 10 p.2) ?_ (by omega) (by omega) ⟨[], rfl, rfl, rfl, rfl, Nat.le_refl _, List.nodup_nil, (fun _ h => nomatch h)⟩ ?_ ?_
  · refine cellW hl (by decide) ?_
    sizeOf_list_dec
    exact ⟨rfl, rfl⟩
  · rintro j hj σ' ls' ⟨ds, rfl, l0, l1, l2, hd1, hd2, hd3⟩
    refine c_set hM ?_
    sizeOf_list_dec
    refine opt_of l2 ?_
    refine opt_of l0 (cellW hl (by decide) ?_)
    sizeOf_list_dec
    refine opt_of l1 ?_
    sizeOf_list_dec
    refine opt_if (mulFits_left small7.1 small7.2) ?_
    sizeOf_list_dec
    refine ⟨a, _, ds, rfl, rfl, upd_self _ _ _, by unfold big; omega, _, by rw [upd_upd], l0, l1, l2, Nat.le_trans len_put_le (by omega), nodup_put hd2, ?_⟩
    intro p hp
    rcases mem_put hp with rfl | hp
    · exact (dat_leaf _ _ _).mono (by decide)
    · exact hd3 p hp
  rintro σ' ls' ⟨ds, rfl, l0, l1, l2, hd1, hd2, hd3⟩
  refine cut_freezeD l2 (upd_self _ _ _) ?_
  rw [del_upd rfl]
  have l0 : (ls'.set 2 (.dct ds)) 0 = some (.lst (ks.map .int)) := l0
  have l1 : (ls'.set 2 (.dct ds)) 1 = some (.int f) := l1
  have l2 : (ls'.set 2 (.dct ds)) 2 = some (.dct ds) := rfl
  generalize ls'.set 2 (.dct ds) = ls at l0 l1 l2
  refine c_assign hM (fun d => ∃ l, l.length ≤ 63 ∧ (∀ x ∈ l, Ent x) ∧ d = .lst l) ?_ ?_
  · refine w_comp_e hM (xs := (ks.drop 2).map .int) Ent ?_ (by simp; unfold big; omega) (fun k v hv => cwp_e hM _ ?_) fun l h1 h2 => ⟨rfl, l, by simp at h1; omega, h2, rfl⟩
    · refine opt_of l0 ?_
      sizeOf_list_dec
      exact ⟨rfl, by rw [sliceL_drop (by decide), List.map_drop]; rfl⟩
    · rw [List.getElem?_map, Option.map_eq_some_iff] at hv
      obtain ⟨c, hc, rfl⟩ := hv
      have hk : k < 63 := by have := (List.getElem?_eq_some_iff.mp hc).1; simp at this; omega
      sizeOf_list_dec
      refine opt_if (mulFits_right (by decide) (by decide)) ?_
      sizeOf_list_dec
      refine opt_of l1 ?_
      sizeOf_list_dec
      exact ⟨by decide, _, f, rfl, f0, f1, fun d hd => ⟨rfl, hd⟩⟩
  rintro _ ⟨l₁, hl1, hE1, rfl⟩
  refine c_if_assign hM (fun d => ∃ l, l.length ≤ 123 ∧ (∀ x ∈ l, Ent x) ∧ d = .lst l) ?_ ?_
  · refine opt_of l0 (cellW hl (by decide) ?_)
    sizeOf_list_dec
    refine ⟨rfl, ?_⟩
    split
    · sizeOf_list_dec
      refine w_comp_rP hM (n := 60) Ent ⟨rfl, rfl⟩ (by decide) (fun k hk => cwp_e hM _ ?_) fun l h1 h2 => ?_
      · refine opt_of l0 (cellW hl (by decide) ?_)
        sizeOf_list_dec
        refine opt_if (mulFits_right (by decide) (by decide)) ?_
        sizeOf_list_dec
        refine opt_of l1 ?_
        sizeOf_list_dec
        exact ⟨by decide, _, f, rfl, f0, f1, fun d hd => ⟨rfl, hd⟩⟩
      · sizeOf_list_dec
        refine opt_of (if_pos (show l₁.length + l.length ≤ big by unfold big; omega)) ?_
        refine ⟨rfl, l₁ ++ l, by rw [List.length_append]; omega, fun x hx => ?_, rfl⟩
        rcases List.mem_append.mp hx with hx | hx
        · exact hE1 x hx
        · exact h2 x hx
    · exact ⟨_, by omega, hE1, rfl⟩
  rintro _ ⟨l, hll, hE, rfl⟩; rw [set_set]
  have hv20 : ∀ p ∈ ds, Dat 20 p.2 := fun p hp => (hd3 p hp).mono (by decide)
  have hl19 : ∀ x ∈ l, Dat 19 x := fun x hx => by
    cases hE x hx with
    | kept => exact .tup fun x hx => by simp at hx; subst hx; exact .str _
    | blk k b h =>
      refine .tup fun x hx => ?_
      simp only [List.mem_cons, List.not_mem_nil, or_false] at hx
      rcases hx with rfl | rfl | rfl
      · exact .str _
      · exact .int _
      · exact h.mono (by decide)
  have hdd : ∀ σ, eqV σ (.dct ds) (.dct ds) = some true := fun σ => by rw [eqV_dic (a := ds) (b := ds) rfl rfl]; exact eqDict_ext hd2 hd2 (fun _ => rfl) hv20
  have hlq : ∀ σ, eqV σ (.lst l) (.lst l) = some true := fun σ => eqV_list (l := l) rfl rfl hl19
  have hlen : ds.length + l.length < 1000 := by omega
  have hEu : ∀ x ∈ upto l, Ent x := fun x hx => by obtain ⟨g, hg⟩ := upto_pre l; exact hE x (by rw [hg]; exact List.mem_append_left _ hx)
  have hru : (upto l).length ≤ l.length := by obtain ⟨g, hg⟩ := upto_pre l; have := congrArg List.length hg; simp only [List.length_append] at this; omega
  refine c_assign hM (fun r => r = .dct ds) (opt_of l2 ⟨rfl, rfl⟩) ?_
  rintro _ rfl
  refine c_assign hM (fun r => r = .lst l) ⟨rfl, rfl⟩ ?_
  rintro _ rfl
  refine c_any hM ?_
  refine ⟨by decide, ds, l, rfl, hE, hlen, fun σ' a ha => ?_⟩
  obtain ⟨n1, n2, n3⟩ := same_all hEu hd2 hd2 (fun _ => rfl)
  have hfl := fold_len (L := upto l) (ds := ds)
  refine c_guard hM ?_ ?_
  · sizeOf_list_dec
    refine opt_map (a := true) (ty_ref_d ha) ?_
    sizeOf_list_dec
    refine opt_of l2 ?_
    sizeOf_list_dec
    refine ⟨by decide, ds, l, rfl, hE, hlen, ?_⟩
    refine opt_map (a := true) ?_ ⟨rfl, rfl⟩
    rw [eqV_dic (σ := σ') (x := .ref a) (y := .dct (dueOf ds l)) (a := (upto l).foldl stE ds) (b := dueOf ds l) (by simp [dicOf, ha]) rfl, due_upto]
    exact eqDict_ext n1 n2 n3 (fold_dat hEu hv20)
  refine c_set hM ?_
  sizeOf_list_dec
  refine ⟨a, _, _, rfl, rfl, ha, by unfold big; omega, ?_⟩
  refine c_ret hM ?_
  sizeOf_list_dec
  refine opt_of l2 (opt_map (hdd _) ?_)
  sizeOf_list_dec
  exact opt_map (hlq _) rfl
end Mine
end

open PySem PySem.W PySem.Calls PyProof.Rows
set_option maxRecDepth 100000
set_option linter.unusedVariables false
set_option Elab.async false
namespace Mine
theorem rcd_mem {n : Str} (h : (recs.find? fun d => d.name == n).isSome = true) : rcd n ∈ recs := by
  unfold rcd
  obtain ⟨d, hd⟩ := Option.isSome_iff_exists.mp h
  rw [hd]; exact List.mem_of_find?_eq_some hd
noncomputable def gcW : Nat → V := fun _ => .none
theorem spec_all : ∀ f F, tab.fns[f]? = some F → ∀ xs Q σ, Φ06 f xs Q σ → xs.length = F.d.params.args.length ∧ swps (below Φ06 f) gcW F.ms (fun σ' _ => Q .none σ') Q σ (argLs xs)
  | 0, F, h => by
    cases h
    intro xs Q σ h
    have k := storeS_ok (below Φ06 0) gcW h
    exact ⟨k.1.trans (by decide +kernel), k.2⟩
  | 1, F, h => by
    cases h
    intro xs Q σ h
    have k := redone_ok gcW h
    exact ⟨k.1.trans (by decide +kernel), k.2⟩
  | 2, F, h => by
    cases h
    intro xs Q σ h
    have k := cellS_ok (below Φ06 2) gcW h
    exact ⟨k.1.trans (by decide +kernel), k.2⟩
  | 3, F, h => by
    cases h
    intro xs Q σ h
    have k := entry_ok (below Φ06 3) (below_mono mono06 _) gcW h
    exact ⟨k.1.trans (by decide +kernel), k.2⟩
  | 4, F, h => by
    cases h
    intro xs Q σ h
    have k := due_ok (below Φ06 4) (below_mono mono06 _) gcW h
    exact ⟨k.1.trans (by decide +kernel), k.2⟩
  | 5, F, h => by
    cases h
    intro xs Q σ h
    exact h.elim
  | f + 6, F, h => by simp [tab] at h
theorem tab_in : ∀ F ∈ tab.fns, F.d ∈ recs := by
  intro F h
  simp only [tab, List.mem_cons, List.not_mem_nil, or_false] at h
  rcases h with rfl | rfl | rfl | rfl | rfl | rfl
  · exact rcd_mem (n := "store_block") (by decide +kernel)
  · exact rcd_mem (n := "redone") (by decide +kernel)
  · exact rcd_mem (n := "_law_cell_at") (by decide +kernel)
  · exact rcd_mem (n := "_law_entry_by") (by decide +kernel)
  · exact rcd_mem (n := "_law_due") (by decide +kernel)
  · exact rcd_mem (n := "law") (by decide +kernel)
/-! the head: the top runs, as one look of the kernel -/
noncomputable def vq : Program := view PySem.Challenge.pw_uf020012_06 [1, 2, 4, 5, 6, 7]
noncomputable def xt (s : Shared) : Bool := recOk (RowW.records PySem.Challenge.rw_uf020012_06.row.toRowW) s
theorem left : LeftO PySem.Challenge.pw_uf020012_06 vq [] xt (Hook.obs Hook.none) (Hook.val Hook.none) 20000 := by
  intro w
  kernel_rfl
theorem said : PySem.Challenge.rw_uf020012_06.wellSaid = true := by decide +kernel
theorem recs_eq : recs = recsOf vq := by kernel_rfl
theorem h_def : defOf vq PySem.Challenge.rw_uf020012_06.row.name = some (rcd "law", []) := by kernel_rfl
theorem h_p : PySem.Challenge.rw_uf020012_06.row.prog.theDef PySem.Challenge.rw_uf020012_06.row.name = some ((rcd "law").params, (rcd "law").body, (rcd "law").scope) := by kernel_rfl
theorem h_k : kwWritten? (rcd "law").params.kwonlyargs (rcd "law").params.kw_defaults = some [] := by kernel_rfl
theorem h_ok : (chainsOk vq && opensWell PySem.Challenge.rw_uf020012_06.row.prog && (frees PySem.Challenge.rw_uf020012_06.row.toRowW && PySem.Challenge.rw_uf020012_06.row.within.isEmpty)) = true := by decide +kernel
theorem h_b : PySem.Challenge.rw_uf020012_06.row.prog.bare := ⟨rfl, rfl, rfl, rfl, rfl, by decide +kernel⟩
theorem h_w : PySem.Challenge.rw_uf020012_06.row.toRowW.promised := by w_witness2
theorem hd (walk : WalkO vq [] (fun _ _ => True) (fun _ _ => True) PySem.Challenge.rw_uf020012_06.row.toRowW (rcd "law") [] (fun f vs => call f vs)) : PySem.Challenge.rw_uf020012_06.Holds :=
  holds_law said fun sd => holds_open (Xt := xt) (Yf := Hook.obs Hook.none) (Ya := Hook.val Hook.none) (N := 20000) left (fun _ _ _ => trivial) (fun _ _ _ _ _ => trivial) (fun _ _ => trivial) (fun _ _ _ _ _ => trivial)
    h_def h_p h_k (fun _ e => recFacts_of e) rfl sd h_ok h_b h_w walk
end Mine
set_option maxHeartbeats 8000000 in
theorem PySem.Challenge.cw_uf020012_06_holds : PySem.Challenge.rw_uf020012_06.Holds :=
  Mine.hd (Mine.law_walk (l := _) rfl rfl Mine.tab Mine.Φ06 Mine.gcW 5 ⟨Mine.rcd "law", Mine.m_law, Mine.v_law⟩ rfl rfl (by decide) (by decide +kernel) (fun F h => List.all_eq_true.mp Mine.tab_ag F h)
    (Mine.recs_eq ▸ Mine.tab_in) Mine.mono06 (by decide +kernel) (fun k x h => by simp [Mine.tab, Mine.gcs_uf020012_06] at h) Mine.spec_all (fun ks h1 h2 => Mine.law_ok ks h1 h2 _))
