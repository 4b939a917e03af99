import PyProof.Rows.All
import Wide.All
import OpenK.AllK
import Wide.FinOn
import KE.LcSums
import OpenK.KCall
import KE.KRevSl
import PyProof.Rows.CatchBare
import PyProof.RulesDelMore
import PyProof.ListIndexNeg
import PyProof.DelItemList
import PySem.Challenge.RW_k18_0055
set_option Elab.async false
set_option maxRecDepth 100000
set_option maxHeartbeats 2000000
set_option linter.unusedVariables false
set_option linter.unusedSimpArgs false

/-! The plain law: LL(1) machine, spans, fuel. No program in sight. -/
namespace Mine
section LL
variable {α : Type}

abbrev Gr (α : Type) := List (α × List α)
def IsHead (g : Gr α) (x : α) : Prop := ∃ r, (x, r) ∈ g

variable {g : Gr α} {t : List α}

/-- what a string of symbols can begin with, by nullables N and first sets F -/
def FSt (g : Gr α) (N : α → Prop) (F : α → α → Prop) : List α → α → Prop
  | [], _ => False
  | x :: r, y => (IsHead g x ∧ (F x y ∨ (N x ∧ FSt g N F r y))) ∨ (¬ IsHead g x ∧ y = x)
def Van (g : Gr α) (N : α → Prop) (r : List α) : Prop := ∀ x ∈ r, IsHead g x ∧ N x

def Pr (g : Gr α) (N : α → Prop) (F W : α → α → Prop) (h : α) (r : List α) (y : α) : Prop := FSt g N F r y ∨ (Van g N r ∧ W h y)

variable {N : α → Prop} {F W : α → α → Prop} {dol start : α}

/-! a small derivation -/
variable {p q : α}

end LL
end Mine

namespace Mine
open PySem PySem.Calls PyProof.Rows

/-- a value, its token forgotten -/
inductive V where
  | none | bool (b : Bool) | int (i : Int) | str (s : Str) | ref (a : Addr) | ty (n : String) | blt (n : String) | other
def er : Value → V
  | .none => .none
  | .bool b => .bool b
  | .int i _ => .int i
  | .str s _ => .str s
  | .ref a => .ref a
  | .type n => .ty n
  | .builtin n => .blt n
  | _ => .other
theorem er_none {v : Value} (h : er v = .none) : v = .none := by cases v <;> simp_all [er]
theorem er_bool {v : Value} {b : Bool} (h : er v = .bool b) : v = .bool b := by cases v <;> simp_all [er]
theorem er_int {v : Value} {i : Int} (h : er v = .int i) : ∃ t, v = .int i t := by cases v <;> simp_all [er]
theorem er_str {v : Value} {x : Str} (h : er v = .str x) : ∃ t, v = .str x t := by cases v <;> simp_all [er]
theorem er_ref {v : Value} {a : Addr} (h : er v = .ref a) : v = .ref a := by cases v <;> simp_all [er]
theorem er_blt {v : Value} {n : String} (h : er v = .blt n) : v = .builtin n := by cases v <;> simp_all [er]
theorem er_ty {v : Value} {n : String} (h : er v = .ty n) : v = .type n := by cases v <;> simp_all [er]

/-- an object, as far as it is known -/
inductive O where
  | list (xs : List V)
  | tuple (xs : List V)
  | dict (ks : List Str) (f : Str → Option V)
  | cell (v : Option V)
  | range (n : Int)
  | arr (xs : List V)
  | tup (xs : List V)

abbrev Vars := Str → Option V
abbrev Hp := Addr → Option O

def O.At (prog : Program) (w : World) (h : Heap) (a : Addr) : O → Prop
  | .list xs => ∃ items n, IsL h a items n ∧ items.toList.map er = xs
  | .tuple xs => ∃ items n, h.get? a = some { cls := .type "tuple", dict := none, data := .seq items n, slots := #[] } ∧ items.toList.map er = xs
  | .dict ks f => (a == sysModules) = false ∧ ∃ kvs, h.DictOf (strKind prog w) a kvs ∧ kvs.map (·.1) = ks ∧ ∀ k, (valueAt kvs k).map er = f k
  | .cell v => ∃ o v', h.get? a = some o ∧ o.data = .cell v' ∧ v'.map er = v
  | .range n => ∃ t u v, IsRange h a 0 n 1 t u v
  | .arr xs => ∃ items, h.IsList a items ∧ items.toList.map er = xs
  | .tup xs => ∃ items n o, h.get? a = some o ∧ o.cls = .type "tuple" ∧ o.data = .seq items n ∧ items.toList.map er = xs

theorem O.At.keeps {prog : Program} {w : World} {h h' : Heap} {a : Addr} : ∀ {o : O}, o.At prog w h a → (∀ x, h.get? a = some x → h'.get? a = some x) → o.At prog w h' a
  | .list _, ⟨items, n, e, r⟩, k => ⟨items, n, k _ e, r⟩
  | .tuple _, ⟨items, n, e, r⟩, k => ⟨items, n, k _ e, r⟩
  | .dict _ _, ⟨hs, kvs, ⟨o, es, ep, e, r'⟩, r⟩, k => ⟨hs, kvs, ⟨o, es, ep, k _ e, r'⟩, r⟩
  | .cell _, ⟨o, v', e, r⟩, k => ⟨o, v', k _ e, r⟩
  | .range _, ⟨t, u, v, e⟩, k => ⟨t, u, v, k _ e⟩
  | .arr _, ⟨items, ⟨o, e, r⟩, q⟩, k => ⟨items, ⟨o, k _ e, r⟩, q⟩
  | .tup _, ⟨items, n, o, e, r⟩, k => ⟨items, n, o, k _ e, r⟩
theorem O.At.some {prog : Program} {w : World} {h : Heap} {a : Addr} : ∀ {o : O}, o.At prog w h a → ∃ x, h.get? a = Option.some x
  | .list _, ⟨_, _, e, _⟩ => ⟨_, e⟩
  | .tuple _, ⟨_, _, e, _⟩ => ⟨_, e⟩
  | .dict _ _, ⟨_, _, ⟨o, _, _, e, _⟩, _⟩ => ⟨o, e⟩
  | .cell _, ⟨o, _, e, _⟩ => ⟨o, e⟩
  | .range _, ⟨_, _, _, e⟩ => ⟨_, e⟩
  | .arr _, ⟨_, ⟨o, e, _⟩, _⟩ => ⟨o, e⟩
  | .tup _, ⟨_, _, o, e, _⟩ => ⟨_, e⟩

structure Cx where
  prog : Program
  w : World
  A : Around
  g : Heap
  L : Addr
  os : OsState

abbrev Cx.M (c : Cx) : Model := model c.prog c.w

/-- the state in a frame: its locals, the objects it owns -/
structure St (c : Cx) (m : Vars) (σ : Hp) (s : Shared) : Prop where
  ns : ∃ m', s.heap.Ns c.L m' ∧ ∀ x v, m x = some v → ∃ val, m' x = some val ∧ er val = v
  keep : ∀ b o, c.g.get? b = some o → s.heap.get? b = some o
  own : ∀ a o, σ a = some o → o.At c.prog c.w s.heap a ∧ a ≠ c.L ∧ c.g.get? a = none
  above : c.g.objs.size ≤ c.L
  gens : s.gens = #[]
  os : s.os = c.os

/-- what a piece of code leaves alone -/
structure Pst (c : Cx) (σ : Hp) (s : Shared) (m' : Vars) (σ' : Hp) (s' : Shared) : Prop where
  st : St c m' σ' s'
  frame : ∀ b o, b ≠ c.L → σ b = none → s.heap.get? b = some o → s'.heap.get? b = some o
  dom : ∀ b o, σ' b = some o → σ b = none → s.heap.get? b = none

theorem Pst.refl {c : Cx} {m : Vars} {σ : Hp} {s : Shared} (S : St c m σ s) : Pst c σ s m σ s :=
  ⟨S, fun _ _ _ _ e => e, fun _ _ h1 h2 => (by rw [h1] at h2; cases h2)⟩

theorem Pst.trans {c : Cx} {m₁ m₂ : Vars} {σ σ₁ σ₂ : Hp} {s s₁ s₂ : Shared} (x : Pst c σ s m₁ σ₁ s₁) (y : Pst c σ₁ s₁ m₂ σ₂ s₂) : Pst c σ s m₂ σ₂ s₂ where
  st := y.st
  frame := fun b o hb hn e => by
    refine y.frame b o hb ?_ (x.frame b o hb hn e)
    cases h : σ₁ b with
    | none => rfl
    | some o' => have := x.dom b o' h hn; rw [e] at this; cases this
  dom := fun b o h hn => by
    cases h1 : σ₁ b with
    | some o' => exact x.dom b o' h1 hn
    | none =>
      have h2 := y.dom b o h h1
      cases h3 : s.heap.get? b with
      | none => rfl
      | some o' =>
        have := x.frame b o' (y.st.own b o h).2.1 hn h3
        rw [h2] at this; cases this

/-- code t, from variables m and objects σ, ends in Q or raises into E -/
def W {α : Type} (c : Cx) (E : Value → Shared → Prop) (t : Sem α) (m : Vars) (σ : Hp) (Q : α → Vars → Hp → Prop) : Prop :=
  ∀ s, St c m σ s → wpAny c.M c.A t (fun a s' => ∃ m' σ', Pst c σ s m' σ' s' ∧ Q a m' σ') E s

section
variable {α β : Type} {c : Cx} {E : Value → Shared → Prop} {m : Vars} {σ : Hp}

theorem W.mono {t : Sem α} {Q Q' : α → Vars → Hp → Prop} (h : W c E t m σ Q) (hq : ∀ a m' σ', Q a m' σ' → Q' a m' σ') : W c E t m σ Q' :=
  fun s S => wpAny_mono (h s S) (fun a _ ⟨m', σ', p, q⟩ => ⟨m', σ', p, hq a m' σ' q⟩) fun _ _ e => e

/-- a rule of the library whose premise nests two judgements -/
theorem W.step {t : Sem α} {Q : α → Vars → Hp → Prop} {s : Shared} (h : W c E t m σ Q) (S : St c m σ s) {R : α → Shared → Prop}
    (k : ∀ a s' m' σ', Pst c σ s m' σ' s' → Q a m' σ' → R a s') : wpAny c.M c.A t R E s :=
  wpAny_mono (h s S) (fun a s' ⟨m', σ', p, q⟩ => k a s' m' σ' p q) fun _ _ e => e
end

/-- an object that may be read: owned, or of the base -/
def Sees (c : Cx) (σ : Hp) (a : Addr) (o : O) : Prop := σ a = some o ∨ o.At c.prog c.w c.g a
theorem Sees.at {c : Cx} {m : Vars} {σ : Hp} {a : Addr} {o : O} {s : Shared} (h : Sees c σ a o) (S : St c m σ s) : o.At c.prog c.w s.heap a :=
  h.elim (fun e => (S.own a o e).1) fun e => e.keeps fun x hx => S.keep a x hx

def upd {κ β : Type} [DecidableEq κ] (f : κ → Option β) (k : κ) (v : β) : κ → Option β := fun y => if y = k then some v else f y
theorem upd_self {κ β : Type} [DecidableEq κ] {f : κ → Option β} {k : κ} {v : β} : upd f k v k = some v := by simp [upd]
theorem upd_ne {κ β : Type} [DecidableEq κ] {f : κ → Option β} {k k' : κ} {v : β} {r : Option β} (h : k' ≠ k) (e : f k' = r) : upd f k v k' = r := by simp [upd, h, e]

section
variable {c : Cx} {m : Vars} {σ : Hp} {s : Shared}

theorem St.lt (S : St c m σ s) : c.L < s.heap.objs.size := let ⟨_, h, _⟩ := S.ns; h.lt

/-- nothing known is touched: all that stood stands -/
theorem St.keeps {h' : Heap} {tk : Nat} (S : St c m σ s) (k : ∀ b o, s.heap.get? b = some o → h'.get? b = some o) : Pst c σ s m σ { s with heap := h', toks := tk } where
  st := { ns := let ⟨m', h1, h2⟩ := S.ns; ⟨m', h1.keeps k, h2⟩
          keep := fun b o e => k b o (S.keep b o e)
          own := fun a o e => let ⟨h1, h2⟩ := S.own a o e; ⟨h1.keeps fun x hx => k a x hx, h2⟩
          above := S.above, gens := S.gens, os := S.os }
  frame := fun b o _ _ e => k b o e
  dom := fun _ _ h1 h2 => by rw [h1] at h2; cases h2

theorem St.toks (S : St c m σ s) (tk : Nat) : Pst c σ s m σ { s with toks := tk } := S.keeps (fun _ _ e => e)

/-- a new object -/
theorem St.alloc {h' : Heap} {tk : Nat} {a : Addr} {o : O} (S : St c m σ s) (k : ∀ b o, s.heap.get? b = some o → h'.get? b = some o)
    (hn : s.heap.get? a = none) (ho : o.At c.prog c.w h' a) : Pst c σ s m (upd σ a o) { s with heap := h', toks := tk } ∧ σ a = none := by
  have hL : a ≠ c.L := fun e => by
    obtain ⟨_, hh, _⟩ := S.ns
    obtain ⟨_, _, _, h1, _⟩ := hh
    rw [e, h1] at hn; cases hn
  have hg : c.g.get? a = none := by
    cases h : c.g.get? a with
    | none => rfl
    | some x => rw [S.keep a x h] at hn; cases hn
  have hσ : σ a = none := by
    cases h : σ a with
    | none => rfl
    | some x => obtain ⟨y, e⟩ := (S.own a x h).1.some; rw [e] at hn; cases hn
  have P := S.keeps (tk := tk) k
  refine ⟨⟨⟨P.st.ns, P.st.keep, fun b x e => ?_, S.above, S.gens, S.os⟩, P.frame, fun b x e h2 => ?_⟩, hσ⟩
  · unfold upd at e
    split at e
    · rename_i hb; cases e; exact hb ▸ ⟨ho, hL, hg⟩
    · exact P.st.own b x e
  · unfold upd at e
    split at e
    · rename_i hb; rw [hb]; exact hn
    · rw [e] at h2; cases h2

theorem St.push {tk : Nat} {x : Obj} {o : O} (S : St c m σ s) (ho : o.At c.prog c.w (s.heap.push x) s.heap.objs.size) :
    Pst c σ s m (upd σ s.heap.objs.size o) { s with heap := s.heap.push x, toks := tk } ∧ σ s.heap.objs.size = none :=
  S.alloc (fun _ _ e => Heap.get?_push_of_some _ e) (by
    cases h : s.heap.get? s.heap.objs.size with
    | none => rfl
    | some y => exact absurd (Heap.lt_size h) (Nat.lt_irrefl _)) ho

/-- an untracked new object -/
theorem St.pushed {tk : Nat} {x : Obj} (S : St c m σ s) : Pst c σ s m σ { s with heap := s.heap.push x, toks := tk } :=
  S.keeps (fun _ _ e => Heap.get?_push_of_some _ e)

/-- an owned object is changed -/
theorem St.change {h' : Heap} {tk : Nat} {a : Addr} {o o' : O} (S : St c m σ s) (hs : Heap.SameBut a s.heap h') (hσ : σ a = some o) (ho : o'.At c.prog c.w h' a) :
    Pst c σ s m (upd σ a o') { s with heap := h', toks := tk } := by
  obtain ⟨_, hL, hg⟩ := S.own a o hσ
  refine ⟨⟨?_, fun b x e => ?_, fun b x e => ?_, S.above, S.gens, S.os⟩, fun b x hb hn e => ?_, fun b x e h2 => ?_⟩
  · obtain ⟨m', h1, h2⟩ := S.ns
    exact ⟨m', h1.sameBut hs (Ne.symm hL), h2⟩
  · exact (hs.2 b fun q => by rw [q, hg] at e; cases e).trans (S.keep b x e)
  · unfold upd at e
    split at e
    · rename_i hb; cases e; exact hb ▸ ⟨ho, hL, hg⟩
    · rename_i hb
      obtain ⟨h1, h2⟩ := S.own b x e
      exact ⟨h1.keeps fun y hy => (hs.2 b hb).trans hy, h2⟩
  · exact (hs.2 b fun q => by rw [q, hσ] at hn; cases hn).trans e
  · unfold upd at e
    split at e
    · rename_i hb; rw [hb, hσ] at h2; cases h2
    · rw [e] at h2; cases h2

/-- a local is stored -/
theorem St.store {h' : Heap} {tk : Nat} {x : Str} {v : Value} {m₀ : Str → Option Value} (S : St c m σ s) (hm : ∀ x v, m x = some v → ∃ val, m₀ x = some val ∧ er val = v)
    (hn : h'.Ns c.L (fun y => if y = x then some v else m₀ y)) (hs : Heap.SameBut c.L s.heap h') : Pst c σ s (upd m x (er v)) σ { s with heap := h', toks := tk } := by
  refine ⟨⟨⟨_, hn, fun y u e => ?_⟩, fun b o e => ?_, fun a o e => ?_, S.above, S.gens, S.os⟩, fun b o hb _ e => (hs.2 b hb).trans e, fun _ _ h1 h2 => (by rw [h1] at h2; cases h2)⟩
  · unfold upd at e
    split at e
    · rename_i hy; cases e; exact ⟨v, by simp [hy], rfl⟩
    · rename_i hy
      obtain ⟨val, h1, h2⟩ := hm y u e
      exact ⟨val, by simp [hy, h1], h2⟩
  · exact (hs.2 b (Nat.ne_of_lt (Nat.lt_of_lt_of_le (Heap.lt_size e) S.above))).trans (S.keep b o e)
  · obtain ⟨h1, h2, h3⟩ := S.own a o e
    exact ⟨h1.keeps fun y hy => (hs.2 a h2).trans hy, h2, h3⟩
end
end Mine

namespace Mine
open PySem PySem.Calls PyProof.Rows

/-- an expression's value, its token forgotten -/
def Ev (c : Cx) (E : Value → Shared → Prop) (t : Sem Value) (m : Vars) (σ : Hp) (Q : V → Vars → Hp → Prop) : Prop := W c E t m σ fun v => Q (er v)

inductive Fl where
  | next | brk | cont | ret (v : V)
def erF : Flow → Fl
  | .next => .next
  | .brk => .brk
  | .cont => .cont
  | .ret v => .ret (er v)
/-- a statement's end -/
def X (c : Cx) (E : Value → Shared → Prop) (t : Sem Flow) (m : Vars) (σ : Hp) (Q : Fl → Vars → Hp → Prop) : Prop := W c E t m σ fun f => Q (erF f)

structure EnvOk (c : Cx) (env : Env) : Prop where
  loc : env.locals = c.L
  kind : env.scope.kind = .function
  glob : env.globals = mainGlobals
  blt : env.builtins = builtinsNs

section
variable {c : Cx} {E : Value → Shared → Prop} {m : Vars} {σ : Hp} {env : Env} {x : Str} {pos : Pos} {v : V} {Q : V → Vars → Hp → Prop} {QB : Bool → Vars → Hp → Prop} {QF : Fl → Vars → Hp → Prop}

/-- from a rule that hands back a value and a heap in which all stands -/
theorem done {s s' : Shared} {m' : Vars} {σ' : Hp} {val : Value} (p : Pst c σ s m' σ' s') (h : Q (er val) m' σ') : ∃ m' σ', Pst c σ s m' σ' s' ∧ Q (er val) m' σ' := ⟨m', σ', p, h⟩

theorem name_local (ho : EnvOk c env) (hk : env.kindOf x = some .local) (hv : m x = some v) (h : Q v m σ) (hd : (x == ("__debug__" : Str)) = false := by decide) : Ev c E (eval (.Name x pos) env) m σ Q := fun s S => by
  obtain ⟨m', h1, h2⟩ := S.ns
  obtain ⟨val, h3, h4⟩ := h2 x v hv
  exact wpAny_Name (wpAny_loadName_local ho.kind hk (ho.loc ▸ h1) h3 (done (.refl S) (h4 ▸ h))) hd

theorem isCell {h : Heap} {a : Addr} {v : V} (x : (O.cell (some v)).At c.prog c.w h a) : ∃ val, h.IsCell a (some val) ∧ er val = v := by
  obtain ⟨o, v', h1, h2, h3⟩ := x
  cases v' with
  | none => cases h3
  | some val => exact ⟨val, ⟨o, h1, h2⟩, by simpa using h3⟩

theorem name_cell (ho : EnvOk c env) (hk : env.kindOf x = some .cell) {a : Addr} (hc : env.cells.lookup x = some a) (hs : Sees c σ a (.cell (some v))) (h : Q v m σ) (hd : (x == ("__debug__" : Str)) = false := by decide) :
    Ev c E (eval (.Name x pos) env) m σ Q := fun s S => by
  obtain ⟨val, h1, h2⟩ := isCell (hs.at S)
  exact wpAny_Name (wpAny_loadName_cell ho.kind hk hc h1 (done (.refl S) (h2 ▸ h))) hd

variable {p : Program} {loose : List Str} {mean : ExcName → Option Value} {mg mb : Str → Option Value}

theorem name_global (ho : EnvOk c env) (T : Top p loose mean mg mb c.g) (hk : env.kindOf x = some .globalImplicit) {val : Value} (hv : mg x = some val) (h : Q (er val) m σ) (hd : (x == ("__debug__" : Str)) = false := by decide) :
    Ev c E (eval (.Name x pos) env) m σ Q := fun s S =>
  Name_function_global ho.kind hk (loadGlobal_global (ho.glob ▸ T.g.keeps S.keep) hv (done (.refl S) h)) hd

theorem name_builtin (ho : EnvOk c env) (T : Top p loose mean mg mb c.g) (hk : env.kindOf x = some .globalImplicit) {val : Value} (hv : bootBuiltins x = some val) (hm : mg x = none) (hn : x ≠ "__name__") (h : Q (er val) m σ)
    (hd : (x == ("__debug__" : Str)) = false := by decide) : Ev c E (eval (.Name x pos) env) m σ Q := fun s S =>
  Name_function_global ho.kind hk (loadGlobal_builtin (ho.glob ▸ T.g.keeps S.keep) hm (ho.blt ▸ T.b.keeps S.keep) ((T.builtins x hn).trans hv) (done (.refl S) h)) hd

theorem const_int {i : Int} {k : Nat} (h : Q (.int i) m σ) : Ev c E (eval (.Constant (.int i) k pos) env) m σ Q := fun _ S => wpAny_Constant_int (done (S.toks _) h)
theorem const_str {u : Str} {k : Nat} (h : Q (.str u) m σ) : Ev c E (eval (.Constant (.str u) k pos) env) m σ Q := fun _ S => Constant_str (done (S.toks _) h)
theorem const_bool {b : Bool} {k : Nat} (h : Q (.bool b) m σ) : Ev c E (eval (.Constant (.bool b) k pos) env) m σ Q := fun _ S => Constant_bool (done (.refl S) h)
/-- the arguments of a call, the items of a display -/
def Evs (c : Cx) (E : Value → Shared → Prop) (t : Sem (List Value)) (m : Vars) (σ : Hp) (Q : List V → Vars → Hp → Prop) : Prop := W c E t m σ fun vs => Q (vs.map er)
theorem evs_nil {QL : List V → Vars → Hp → Prop} (h : QL [] m σ) : Evs c E (spliced (backTo pos (starEach [] env))) m σ QL := fun _ S => args_nil ⟨m, σ, .refl S, h⟩
theorem evs_cons {e : Expr} {rest : List Expr} {QL : List V → Vars → Hp → Prop} (h : Ev c E (eval e env) m σ fun v m₁ σ₁ => Evs c E (spliced (backTo pos (starEach rest env))) m₁ σ₁ fun vs m₂ σ₂ => QL (v :: vs) m₂ σ₂)
    (he : starEach (e :: rest) env = (false, eval e env) :: starEach rest env := by rfl) : Evs c E (spliced (backTo pos (starEach (e :: rest) env))) m σ QL := fun s S =>
  args_cons (W.step h S fun _ _ _ _ p q => W.step q p.st fun _ _ m₂ σ₂ p₂ q₂ => ⟨m₂, σ₂, p.trans p₂, q₂⟩) he

theorem list_disp {elts : List Expr} (h : Evs c E (spliced (backTo pos (starEach elts env))) m σ fun vs m₁ σ₁ => vs.length ≤ 1000 ∧ ∀ a, σ₁ a = none → Q (.ref a) m₁ (upd σ₁ a (.list vs))) : Ev c E (eval (.List elts pos) env) m σ Q := fun s S =>
  List_ (W.step h S fun vs s₁ m₁ σ₁ p ⟨hl, q⟩ => by
    rw [List.length_map] at hl
    obtain ⟨p₂, hn⟩ := p.st.push (tk := s₁.toks) (x := { cls := .type "list", data := .seq vs.toArray }) (o := .list (vs.map er)) ⟨vs.toArray, 0, IsL.new _ _, by simp⟩
    exact wpAny_newObj_type (done (p.trans p₂) (q _ hn)) (by show vs.toArray.size ≤ sizeLine; rw [List.size_toArray, sizeLine_eq]; omega))
theorem tuple_disp {elts : List Expr} {k : Nat} (h : Evs c E (spliced (backTo pos (starEach elts env))) m σ fun vs m₁ σ₁ => vs.length ≤ 1000 ∧ ∀ a, σ₁ a = none → Q (.ref a) m₁ (upd σ₁ a (.tuple vs))) : Ev c E (eval (.Tuple elts k pos) env) m σ Q := fun s S =>
  Tuple_ (W.step h S fun vs s₁ m₁ σ₁ p ⟨hl, q⟩ => by
    rw [List.length_map] at hl
    obtain ⟨p₂, hn⟩ := p.st.push (tk := s₁.toks) (x := { cls := .type "tuple", data := .seq vs.toArray }) (o := .tuple (vs.map er)) ⟨vs.toArray, 0, Heap.get?_push_size _ rfl, by simp⟩
    exact wpAny_newObj_type (done (p.trans p₂) (q _ hn)) (by show vs.toArray.size ≤ sizeLine; rw [List.size_toArray, sizeLine_eq]; omega))
theorem dict_disp (hs : ∀ s : Shared, St c m σ s → (s.heap.objs.size == sysModules) = false) (h : ∀ a, σ a = none → Q (.ref a) m (upd σ a (.dict [] fun _ => none))) : Ev c E (eval (.Dict [] [] pos) env) m σ Q := fun s S => by
  obtain ⟨p₂, hn⟩ := S.push (tk := s.toks) (x := { cls := .type "dict", data := .dict #[] }) (o := .dict [] fun _ => none) ⟨hs s S, [], Heap.DictOf.new _, rfl, fun _ => rfl⟩
  exact wpAny_Dict_empty (done p₂ (h _ hn))

theorem compare {l r : Expr} {op : CmpOp} (h : Ev c E (eval l env) m σ fun a m₁ σ₁ => Ev c E (eval r env) m₁ σ₁ fun b m₂ σ₂ => ∀ va vb, er va = a → er vb = b → Ev c E (compareOp op va vb) m₂ σ₂ Q)
    (hm : behindInMarks op r = false := by with_unfolding_all rfl) : Ev c E (eval (.Compare l [op] [r] pos) env) m σ Q := fun s S =>
  wpAny_Compare1 (W.step h S fun a s₁ _ _ p q => W.step q p.st fun b s₂ _ _ p₂ q₂ => W.step (q₂ a b rfl rfl) p₂.st fun _ _ _ _ p₃ q₃ => done ((p.trans p₂).trans p₃) q₃) hm

/-- a bool for a test -/
def ToB (QB : Bool → Vars → Hp → Prop) : V → Vars → Hp → Prop := fun v m σ => ∃ b, v = .bool b ∧ QB b m σ
theorem truthy_toB {s : Shared} {m' : Vars} {σ' : Hp} {s' : Shared} {val : Value} (p : Pst c σ s m' σ' s') (q : ToB QB (er val) m' σ') : wpAny c.M c.A (truthy val) (fun b s'' => ∃ m' σ', Pst c σ s m' σ' s'' ∧ QB b m' σ') E s' := by
  obtain ⟨b, e, q⟩ := q
  rw [er_bool e]
  exact wpAny_truthy_bool ⟨m', σ', p, q⟩

theorem true_compare {l r : Expr} {op : CmpOp} {whole : Sem Value} (h : Ev c E (eval l env) m σ fun a m₁ σ₁ => Ev c E (eval r env) m₁ σ₁ fun b m₂ σ₂ => ∀ va vb, er va = a → er vb = b → Ev c E (compareOp op va vb) m₂ σ₂ (ToB QB))
    (hm : behindInMarks op r = false := by with_unfolding_all rfl) : W c E (isTrue (.Compare l [op] [r] pos) env whole) m σ QB := fun s S =>
  wpAny_isTrue_Compare1 (W.step h S fun a s₁ _ _ p q => W.step q p.st fun b s₂ _ _ p₂ q₂ => W.step (q₂ a b rfl rfl) p₂.st fun _ _ _ _ p₃ q₃ => truthy_toB ((p.trans p₂).trans p₃) q₃) hm
theorem true_plain {e : Expr} {whole : Sem Value} (h : Ev c E whole m σ (ToB QB)) (he : isTrue e env whole = (do let v ← whole; standAt e.pos; holding [v] (truthy v)) := by rfl) : W c E (isTrue e env whole) m σ QB := fun s S =>
  isTrue_plain (W.step h S fun _ _ _ _ p q => truthy_toB p q) he
theorem true_not {e : Expr} {whole : Sem Value} (h : W c E (isTrue e env (eval e env)) m σ fun b => QB (!b)) : W c E (isTrue (.UnaryOp .Not e pos) env whole) m σ QB := fun s S =>
  isTrue_not (W.step h S fun _ _ m₁ σ₁ p q => ⟨m₁, σ₁, p, q⟩)
theorem true_and_nil {whole : Sem Value} (h : QB true m σ) : W c E (isTrue (.BoolOp .And [] pos) env whole) m σ QB := fun s S => isTrue_and_nil ⟨m, σ, .refl S, h⟩
theorem true_or_nil {whole : Sem Value} (h : QB false m σ) : W c E (isTrue (.BoolOp .Or [] pos) env whole) m σ QB := fun s S => isTrue_or_nil ⟨m, σ, .refl S, h⟩
theorem true_and {e : Expr} {rest : List Expr} {whole : Sem Value} (h : W c E (isTrue e env (eval e env)) m σ fun b m₁ σ₁ => (b = true → W c E (isTrue (.BoolOp .And rest pos) env whole) m₁ σ₁ QB) ∧ (b = false → QB false m₁ σ₁)) :
    W c E (isTrue (.BoolOp .And (e :: rest) pos) env whole) m σ QB := fun s S =>
  isTrue_and (W.step h S fun b _ m₁ σ₁ p q => by
    cases b with
    | true => exact W.step (q.1 rfl) p.st fun _ _ m₂ σ₂ p₂ q₂ => ⟨m₂, σ₂, p.trans p₂, q₂⟩
    | false => exact ⟨m₁, σ₁, p, q.2 rfl⟩)
theorem true_or {e : Expr} {rest : List Expr} {whole : Sem Value} (h : W c E (isTrue e env (eval e env)) m σ fun b m₁ σ₁ => (b = false → W c E (isTrue (.BoolOp .Or rest pos) env whole) m₁ σ₁ QB) ∧ (b = true → QB true m₁ σ₁)) :
    W c E (isTrue (.BoolOp .Or (e :: rest) pos) env whole) m σ QB := fun s S =>
  isTrue_or (W.step h S fun b _ m₁ σ₁ p q => by
    cases b with
    | false => exact W.step (q.1 rfl) p.st fun _ _ m₂ σ₂ p₂ q₂ => ⟨m₂, σ₂, p.trans p₂, q₂⟩
    | true => exact ⟨m₁, σ₁, p, q.2 rfl⟩)

theorem bool_one {e : Expr} {op : BoolOp} (h : Ev c E (eval e env) m σ Q) : Ev c E (eval (.BoolOp op [e] pos) env) m σ Q := fun s S => BoolOp_one (h s S)
theorem bool_or {e₁ e₂ : Expr} {rest : List Expr} (h : Ev c E (eval e₁ env) m σ (ToB fun b m₁ σ₁ => (b = false → Ev c E (eval (.BoolOp .Or (e₂ :: rest) pos) env) m₁ σ₁ Q) ∧ (b = true → Q (.bool true) m₁ σ₁))) :
    Ev c E (eval (.BoolOp .Or (e₁ :: e₂ :: rest) pos) env) m σ Q := fun s S =>
  BoolOp_or (W.step h S fun val s₁ m₁ σ₁ p q => by
    obtain ⟨b, e, q1, q2⟩ := q
    rw [er_bool e]
    cases b with
    | false => exact wpAny_truthy_bool (W.step (q1 rfl) p.st fun _ _ _ _ p₂ q₂ => done (p.trans p₂) q₂)
    | true => exact wpAny_truthy_bool (done (val := .bool true) p (q2 rfl)))

theorem binop {l r : Expr} {op : Operator} (h : Ev c E (eval l env) m σ fun a m₁ σ₁ => Ev c E (eval r env) m₁ σ₁ fun b m₂ σ₂ => ∀ va vb, er va = a → er vb = b → Ev c E (binaryOp op va vb) m₂ σ₂ Q) :
    Ev c E (eval (.BinOp l op r pos) env) m σ Q := fun s S =>
  wpAny_BinOp (W.step h S fun a s₁ _ _ p q => W.step q p.st fun b s₂ _ _ p₂ q₂ => W.step (q₂ a b rfl rfl) p₂.st fun _ _ _ _ p₃ q₃ => done ((p.trans p₂).trans p₃) q₃)
theorem unop {e : Expr} {op : UnaryOp} (h : Ev c E (eval e env) m σ fun a m₁ σ₁ => ∀ va, er va = a → Ev c E (unaryOp op va) m₁ σ₁ Q) : Ev c E (eval (.UnaryOp op e pos) env) m σ Q := fun s S =>
  UnaryOp_ (W.step h S fun a s₁ _ _ p q => W.step (q a rfl) p.st fun _ _ _ _ p₃ q₃ => done (p.trans p₃) q₃)
theorem subscript {value slice : Expr} (h : Ev c E (eval value env) m σ fun a m₁ σ₁ => Ev c E (eval slice env) m₁ σ₁ fun b m₂ σ₂ => ∀ va vb, er va = a → er vb = b → Ev c E (subscriptTail value slice va vb) m₂ σ₂ Q) :
    Ev c E (eval (.Subscript value slice pos) env) m σ Q := fun s S =>
  Subscript_ (W.step h S fun a s₁ _ _ p q => W.step q p.st fun b s₂ _ _ p₂ q₂ => W.step (q₂ a b rfl rfl) p₂.st fun _ _ _ _ p₃ q₃ => done ((p.trans p₂).trans p₃) q₃)

/-! statements -/
theorem execs_nil (h : QF .next m σ) : X c E (execs [] env) m σ QF := fun _ S => wpAny_execs_nil ⟨m, σ, .refl S, h⟩
theorem execs_cons {st : Stmt} {rest : List Stmt} (h : X c E (exec st env) m σ fun f m₁ σ₁ => match f with | .next => X c E (execs rest env) m₁ σ₁ QF | f => QF f m₁ σ₁) : X c E (execs (st :: rest) env) m σ QF := fun s S =>
  wpAny_execs_cons (W.step h S fun f _ m₁ σ₁ p q => by
    cases f with
    | next => exact W.step q p.st fun _ _ m₂ σ₂ p₂ q₂ => ⟨m₂, σ₂, p.trans p₂, q₂⟩
    | brk => exact ⟨m₁, σ₁, p, q⟩
    | cont => exact ⟨m₁, σ₁, p, q⟩
    | ret v => exact ⟨m₁, σ₁, p, q⟩)
theorem ret {e : Expr} (h : Ev c E (eval e env) m σ fun v => QF (.ret v)) : X c E (exec (.Return (some e) pos) env) m σ QF := fun s S =>
  wpAny_Return_some (W.step h S fun _ _ m₁ σ₁ p q => ⟨m₁, σ₁, p, q⟩)
theorem if_ {test : Expr} {body orelse : List Stmt} (h : W c E (isTrue test env (eval test env)) m σ fun b m₁ σ₁ => (b = true → X c E (execs body env) m₁ σ₁ QF) ∧ (b = false → X c E (execs orelse env) m₁ σ₁ QF)) :
    X c E (exec (.If test body orelse pos) env) m σ QF := fun s S =>
  wpAny_If (W.step h S fun b _ m₁ σ₁ p q => by
    cases b with
    | true => exact W.step (q.1 rfl) p.st fun _ _ m₂ σ₂ p₂ q₂ => ⟨m₂, σ₂, p.trans p₂, q₂⟩
    | false => exact W.step (q.2 rfl) p.st fun _ _ m₂ σ₂ p₂ q₂ => ⟨m₂, σ₂, p.trans p₂, q₂⟩)

theorem store_local {val : Value} {QU : Unit → Vars → Hp → Prop} (ho : EnvOk c env) (hk : env.kindOf x = some .local) (h : QU () (upd m x (er val)) σ) : W c E (storeName env x val) m σ QU := fun s S => by
  obtain ⟨m', h1, h2⟩ := S.ns
  exact wpAny_storeName_local hk (ho.loc ▸ h1) (fun h' hn hs => ⟨_, _, S.store h2 (ho.loc ▸ hn) (ho.loc ▸ hs), h⟩) (by rw [ho.kind]; rfl)
theorem store_cell {val : Value} {QU : Unit → Vars → Hp → Prop} {a : Addr} {v₀ : Option V} (ho : EnvOk c env) (hk : env.kindOf x = some .cell) (hc : env.cells.lookup x = some a) (hσ : σ a = some (.cell v₀))
    (h : QU () m (upd σ a (.cell (some (er val))))) : W c E (storeName env x val) m σ QU := fun s S => by
  obtain ⟨o, v', h1, h2, h3⟩ := (S.own a _ hσ).1
  exact wpAny_storeName_cell ho.kind hk hc ⟨o, h1, h2⟩ fun h' ⟨o', h1', h2'⟩ hs => ⟨_, _, S.change (tk := s.toks) (o' := .cell (some (er val))) hs hσ ⟨o', _, h1', h2', rfl⟩, h⟩

theorem assign_name {value : Expr} {p' : Pos} (h : Ev c E (eval value env) m σ fun v m₁ σ₁ => ∀ val, er val = v → W c E (storeName env x val) m₁ σ₁ fun _ => QF .next)
    (hs : swapsWith value (some (.Name x p')) pos.line env = pure false := by rfl) : X c E (exec (.Assign [.Name x p'] value pos) env) m σ QF := fun s S =>
  wpAny_Assign_Name (W.step h S fun a s₁ _ _ p q => W.step (q a rfl) p.st fun _ _ m₂ σ₂ p₂ q₂ => ⟨m₂, σ₂, p.trans p₂, q₂⟩) hs
theorem assign_local {value : Expr} {p' : Pos} (ho : EnvOk c env) (hk : env.kindOf x = some .local) (h : Ev c E (eval value env) m σ fun v m₁ σ₁ => QF .next (upd m₁ x v) σ₁)
    (hs : swapsWith value (some (.Name x p')) pos.line env = pure false := by rfl) : X c E (exec (.Assign [.Name x p'] value pos) env) m σ QF :=
  assign_name (W.mono h fun _ _ _ q val e => store_local ho hk (e ▸ q)) hs
theorem assign_cell {value : Expr} {p' : Pos} {a : Addr} (ho : EnvOk c env) (hk : env.kindOf x = some .cell) (hc : env.cells.lookup x = some a)
    (h : Ev c E (eval value env) m σ fun v m₁ σ₁ => ∃ v₀, σ₁ a = some (.cell v₀) ∧ QF .next m₁ (upd σ₁ a (.cell (some v))))
    (hs : swapsWith value (some (.Name x p')) pos.line env = pure false := by rfl) : X c E (exec (.Assign [.Name x p'] value pos) env) m σ QF :=
  assign_name (W.mono h fun _ _ _ ⟨_, h1, q⟩ val e => store_cell ho hk hc h1 (e ▸ q)) hs
theorem expr_ {e : Expr} (h : Ev c E (eval e env) m σ fun v m₁ σ₁ => v = .none ∧ QF .next m₁ σ₁) (hi : interactive env = false := by rfl) (hs : swapsWith e none pos.line env = pure false := by rfl) : X c E (exec (.Expr e pos) env) m σ QF := fun s S =>
  wpAny_Expr (W.step h S fun val s₁ m₁ σ₁ p q => by rw [er_none q.1]; exact ⟨m₁, σ₁, p, q.2⟩) hi hs
theorem assign_sub {o i value : Expr} {p' : Pos} (h : Ev c E (eval value env) m σ fun v m₁ σ₁ => Ev c E (eval o env) m₁ σ₁ fun ov m₂ σ₂ => Ev c E (eval i env) m₂ σ₂ fun iv m₃ σ₃ =>
      ∀ val oval ival, er val = v → er oval = ov → er ival = iv → W c E (setItem oval ival val) m₃ σ₃ fun _ => QF .next)
    (hs : swapsWith value (some (.Subscript o i p')) pos.line env = pure false := by rfl) : X c E (exec (.Assign [.Subscript o i p'] value pos) env) m σ QF := fun s S =>
  wpAny_Assign_Subscript (W.step h S fun a s₁ _ _ p q => W.step q p.st fun b s₂ _ _ p₂ q₂ => W.step q₂ p₂.st fun d s₃ _ _ p₃ q₃ => W.step (q₃ a b d rfl rfl rfl) p₃.st fun _ _ m₄ σ₄ p₄ q₄ => ⟨m₄, σ₄, ((p.trans p₂).trans p₃).trans p₄, q₄⟩) hs
end
end Mine

namespace Mine
open PySem PySem.Calls PyProof.Rows PySem.SeqAt

section
variable {c : Cx} {E : Value → Shared → Prop} {m : Vars} {σ : Hp} {env : Env} {x : Str} {pos : Pos} {v : V} {Q : V → Vars → Hp → Prop}

/-! ints, bools, strs -/
theorem op_add {i j : Int} {a b : Value} (ha : er a = .int i) (hb : er b = .int j) (h : Q (.int (i + j)) m σ) : Ev c E (binaryOp .Add a b) m σ Q := fun s S => by
  obtain ⟨t, rfl⟩ := er_int ha; obtain ⟨u, rfl⟩ := er_int hb
  exact PyProof.Rows.add_int (done (S.toks _) h)
theorem op_sub {i j : Int} {a b : Value} (ha : er a = .int i) (hb : er b = .int j) (h : Q (.int (i - j)) m σ) : Ev c E (binaryOp .Sub a b) m σ Q := fun s S => by
  obtain ⟨t, rfl⟩ := er_int ha; obtain ⟨u, rfl⟩ := er_int hb
  exact PyProof.Rows.sub_int (done (S.toks _) h)
theorem op_mod {i j : Int} {a b : Value} (ha : er a = .int i) (hb : er b = .int j) (hj : j ≠ 0) (h : Q (.int (i.fmod j)) m σ) : Ev c E (binaryOp .Mod a b) m σ Q := fun s S => by
  obtain ⟨t, rfl⟩ := er_int ha; obtain ⟨u, rfl⟩ := er_int hb
  exact PyProof.Rows.mod_int hj (done (S.toks _) h)
theorem op_neg {i : Int} {a : Value} (ha : er a = .int i) (h : Q (.int (-i)) m σ) : Ev c E (unaryOp .USub a) m σ Q := fun s S => by
  obtain ⟨t, rfl⟩ := er_int ha
  exact PyProof.Rows.neg_int (done (S.toks _) h)
theorem op_eq_int {i j : Int} {a b : Value} (ha : er a = .int i) (hb : er b = .int j) (h : Q (.bool (i == j)) m σ) : Ev c E (compareOp .Eq a b) m σ Q := fun s S => by
  obtain ⟨t, rfl⟩ := er_int ha; obtain ⟨u, rfl⟩ := er_int hb
  exact PyProof.Rows.eq_int (done (val := .bool (i == j)) (.refl S) h)
theorem op_ne_int {i j : Int} {a b : Value} (ha : er a = .int i) (hb : er b = .int j) (h : Q (.bool (i != j)) m σ) : Ev c E (compareOp .NotEq a b) m σ Q := fun s S => by
  obtain ⟨t, rfl⟩ := er_int ha; obtain ⟨u, rfl⟩ := er_int hb
  exact PyProof.Rows.ne_int (done (val := .bool (i != j)) (.refl S) h)
theorem op_lt_int {i j : Int} {a b : Value} (ha : er a = .int i) (hb : er b = .int j) (h : Q (.bool (decide (i < j))) m σ) : Ev c E (compareOp .Lt a b) m σ Q := fun s S => by
  obtain ⟨t, rfl⟩ := er_int ha; obtain ⟨u, rfl⟩ := er_int hb
  exact PyProof.Rows.lt_int (done (val := .bool (decide (i < j))) (.refl S) h)
theorem op_gt_int {i j : Int} {a b : Value} (ha : er a = .int i) (hb : er b = .int j) (h : Q (.bool (decide (i > j))) m σ) : Ev c E (compareOp .Gt a b) m σ Q := fun s S => by
  obtain ⟨t, rfl⟩ := er_int ha; obtain ⟨u, rfl⟩ := er_int hb
  exact PyProof.Rows.gt_int (done (val := .bool (decide (i > j))) (.refl S) h)
theorem op_eq_str {i j : Str} {a b : Value} (ha : er a = .str i) (hb : er b = .str j) (h : Q (.bool (i == j)) m σ) : Ev c E (compareOp .Eq a b) m σ Q := fun s S => by
  obtain ⟨t, rfl⟩ := er_str ha; obtain ⟨u, rfl⟩ := er_str hb
  exact PyProof.Rows.eq_str (done (val := .bool (i == j)) (.refl S) h)
theorem op_ne_str {i j : Str} {a b : Value} (ha : er a = .str i) (hb : er b = .str j) (h : Q (.bool (i != j)) m σ) : Ev c E (compareOp .NotEq a b) m σ Q := fun s S => by
  obtain ⟨t, rfl⟩ := er_str ha; obtain ⟨u, rfl⟩ := er_str hb
  exact PyProof.Rows.ne_str (done (val := .bool (i != j)) (.refl S) h)
/-! in a list of strs, of ints -/
theorem strs_er {items : List Value} {ss : List Str} (h : items.map er = ss.map V.str) {y : Value} (hy : y ∈ items) : ∃ z t, y = .str z t ∧ z ∈ ss := by
  have : er y ∈ ss.map V.str := h ▸ List.mem_map_of_mem hy
  obtain ⟨z, hz, e⟩ := List.mem_map.mp this
  obtain ⟨t, e'⟩ := er_str e.symm
  exact ⟨z, t, e', hz⟩
def eqS (x : Str) (v : Value) : Bool := match v with | .str z _ => z == x | _ => false
theorem any_eqS {items : List Value} {ss : List Str} (h : items.map er = ss.map V.str) (x : Str) : items.any (eqS x) = decide (x ∈ ss) := by
  rw [Bool.eq_iff_iff, List.any_eq_true, decide_eq_true_eq]
  constructor
  · rintro ⟨y, hy, e⟩
    obtain ⟨z, t, rfl, hz⟩ := strs_er h hy
    have : z = x := by simpa [eqS] using e
    exact this ▸ hz
  · intro hx
    have : V.str x ∈ items.map er := h ▸ List.mem_map_of_mem hx
    obtain ⟨y, hy, e⟩ := List.mem_map.mp this
    obtain ⟨t, rfl⟩ := er_str e
    exact ⟨_, hy, by simp [eqS]⟩
theorem op_in_strs {ss : List Str} {u : Str} {l : Addr} {a b : Value} (ha : er a = .str u) (hb : er b = .ref l) (hl : Sees c σ l (.list (ss.map V.str))) (h : Q (.bool (decide (u ∈ ss))) m σ) : Ev c E (compareOp .In a b) m σ Q := fun s S => by
  obtain ⟨t, rfl⟩ := er_str ha; obtain rfl := er_ref hb
  obtain ⟨items, n, h1, h2⟩ := hl.at S
  refine in_listAt (eqS u) h1.isList (fun y hy => ?_) (done (val := .bool _) (.refl S) (by rw [← Array.any_toList, any_eqS h2]; exact h))
  obtain ⟨z, t', rfl, _⟩ := strs_er h2 (Array.mem_toList_iff.mpr hy)
  exact EqAt.str_str z t' u t
theorem op_notin_strs {ss : List Str} {u : Str} {l : Addr} {a b : Value} (ha : er a = .str u) (hb : er b = .ref l) (hl : Sees c σ l (.list (ss.map V.str))) (h : Q (.bool (!decide (u ∈ ss))) m σ) : Ev c E (compareOp .NotIn a b) m σ Q := fun s S => by
  obtain ⟨t, rfl⟩ := er_str ha; obtain rfl := er_ref hb
  obtain ⟨items, n, h1, h2⟩ := hl.at S
  refine notIn_listAt (eqS u) h1.isList (fun y hy => ?_) (done (val := .bool _) (.refl S) (by rw [← Array.any_toList, any_eqS h2]; exact h))
  obtain ⟨z, t', rfl, _⟩ := strs_er h2 (Array.mem_toList_iff.mpr hy)
  exact EqAt.str_str z t' u t
/-! two lists of strs -/
theorem eqS_lists {c : Cx} {s : Shared} {l k : Addr} {ss ts : List Str} (A : Around) (hu : A.units < cLine) (hl : (O.list (ss.map V.str)).At c.prog c.w s.heap l) (hk : (O.list (ts.map V.str)).At c.prog c.w s.heap k) :
    RcAt A s (.ref l) (.ref k) (decide (ss = ts)) ∧ RcNeAt A s (.ref l) (.ref k) (!decide (ss = ts)) := by
  obtain ⟨xs, n, h1, h2⟩ := hl
  obtain ⟨ys, n', h3, h4⟩ := hk
  have l1 : xs.size = ss.length := by simpa using congrArg List.length h2
  have l2 : ys.size = ts.length := by simpa using congrArg List.length h4
  by_cases hsz : xs.size = ys.size
  · have he : ∀ j (p : j < xs.size) (q : j < ys.size), EqAt A.in1 s xs[j] ys[j] (decide (ss[j]? = ts[j]?)) := by
      intro j p q
      have e1 : (xs.toList.map er)[j]? = (ss.map V.str)[j]? := by rw [h2]
      have e2 : (ys.toList.map er)[j]? = (ts.map V.str)[j]? := by rw [h4]
      have hp : j < ss.length := by omega
      have hq : j < ts.length := by omega
      simp [p, q, hp, hq] at e1 e2
      obtain ⟨t, e1⟩ := er_str e1
      obtain ⟨u, e2⟩ := er_str e2
      rw [e1, e2]
      have := EqAt.str_str (A := A.in1) (s := s) ss[j] t ts[j] u
      have e3 : (ss[j] == ts[j]) = decide (ss[j]? = ts[j]?) := by rw [Bool.eq_iff_iff]; simp [hp, hq]
      rwa [e3] at this
    have ea : (List.range xs.size).all (fun j => decide (ss[j]? = ts[j]?)) = decide (ss = ts) := by
      rw [Bool.eq_iff_iff, List.all_eq_true, decide_eq_true_eq]
      constructor
      · intro h
        refine List.ext_getElem? fun j => ?_
        by_cases hj : j < xs.size
        · simpa using h j (List.mem_range.mpr hj)
        · rw [List.getElem?_eq_none (by omega), List.getElem?_eq_none (by omega)]
      · rintro rfl j _; simp
    refine ⟨?_, ?_⟩
    · have := RcAt.lists h1.isList h3.isList hsz hu he; rwa [ea] at this
    · have := RcNeAt.lists h1.isList h3.isList hsz hu he; rwa [ea] at this
  · have hne : ss ≠ ts := fun e => hsz (by rw [l1, l2, e])
    simp only [hne, decide_false, Bool.not_false]
    exact ⟨RcAt.lists_lengths h1.isList h3.isList (by simpa using hsz) hu, RcNeAt.lists_lengths h1.isList h3.isList (by simpa using hsz) hu⟩
theorem op_ne_strs {ss ts : List Str} {l k : Addr} {a b : Value} (hu : c.A.units < cLine) (ha : er a = .ref l) (hb : er b = .ref k) (hl : Sees c σ l (.list (ss.map V.str))) (hk : Sees c σ k (.list (ts.map V.str)))
    (h : Q (.bool (!decide (ss = ts))) m σ) : Ev c E (compareOp .NotEq a b) m σ Q := fun s S => by
  obtain rfl := er_ref ha; obtain rfl := er_ref hb
  exact (eqS_lists c.A hu (hl.at S) (hk.at S)).2 _ _ _ _ (done (val := .bool _) (.refl S) h)

/-! dicts -/
theorem dict_map {h : Heap} {a : Addr} {ks : List Str} {f : Str → Option V} (x : (O.dict ks f).At c.prog c.w h a) : ∃ g, h.MapOf (PySem.strKind c.prog c.w) a g ∧ ∀ k, (g k).map er = f k :=
  let ⟨_, kvs, h1, _, h2⟩ := x; ⟨valueAt kvs, h1.mapOf, h2⟩
theorem op_in_dict {ks : List Str} {f : Str → Option V} {u : Str} {l : Addr} {a b : Value} (ha : er a = .str u) (hb : er b = .ref l) (hl : Sees c σ l (.dict ks f)) (h : Q (.bool (f u).isSome) m σ) : Ev c E (compareOp .In a b) m σ Q := fun s S => by
  obtain ⟨t, rfl⟩ := er_str ha; obtain rfl := er_ref hb
  have h1 := hl.at S
  obtain ⟨g, h2, h3⟩ := dict_map h1
  exact wpAny_in_of (PySem.strKind_is c.prog c.w u t) h1.1 h2 (done (val := .bool _) (S.toks _) (by rw [← h3 u, Option.isSome_map] at h; exact h))
theorem op_notin_dict {ks : List Str} {f : Str → Option V} {u : Str} {l : Addr} {a b : Value} (ha : er a = .str u) (hb : er b = .ref l) (hl : Sees c σ l (.dict ks f)) (h : Q (.bool (!(f u).isSome)) m σ) : Ev c E (compareOp .NotIn a b) m σ Q := fun s S => by
  obtain ⟨t, rfl⟩ := er_str ha; obtain rfl := er_ref hb
  have h1 := hl.at S
  obtain ⟨g, h2, h3⟩ := dict_map h1
  exact wpAny_notIn_of (PySem.strKind_is c.prog c.w u t) h1.1 h2 (done (val := .bool _) (S.toks _) (by rw [← h3 u, Option.isSome_map] at h; exact h))

/-! items -/
theorem sub_dict {value slice : Expr} {ks : List Str} {f : Str → Option V} {u : Str} {l : Addr} {a b : Value} (ha : er a = .ref l) (hb : er b = .str u) (hl : Sees c σ l (.dict ks f)) (hv : f u = some v) (h : Q v m σ)
    (hs : ∀ t, subscripted slice false (.ref l) (.str u t) = operate [.ref l, .str u t] (getItem (.ref l) (.str u t)) := by intro _; with_unfolding_all rfl) : Ev c E (subscriptTail value slice a b) m σ Q := fun s S => by
  obtain ⟨t, rfl⟩ := er_str hb; obtain rfl := er_ref ha
  have h1 := hl.at S
  obtain ⟨g, h2, h3⟩ := dict_map h1
  have h4 := h3 u
  rw [hv] at h4
  cases hg : g u with
  | none => rw [hg] at h4; cases h4
  | some val =>
    rw [hg] at h4
    have h4 : er val = v := Option.some.inj h4
    exact tail_any h2.typeIs slot_dict_getitem.lookup (wpAny_getItem_of (PySem.strKind_is c.prog c.w u t) h2 hg (done (S.toks _) (h4 ▸ h))) (hs t)
theorem item_at {items : List Value} {xs : List V} {i : Nat} (h : items.map er = xs) (hi : xs[i]? = some v) : ∃ val, items[i]? = some val ∧ er val = v := by
  rw [← h, List.getElem?_map] at hi
  cases hx : items[i]? with
  | none => rw [hx] at hi; cases hi
  | some val => rw [hx] at hi; exact ⟨val, rfl, Option.some.inj hi⟩
theorem sub_list {value slice : Expr} {xs : List V} {i : Int} {l : Addr} {a b : Value} (ha : er a = .ref l) (hb : er b = .int i) (hl : Sees c σ l (.list xs)) (h0 : 0 ≤ i) (h63 : i < 2 ^ 63) (hv : xs[i.toNat]? = some v) (h : Q v m σ)
    (hs : ∀ t, subscripted slice false (.ref l) (.int i t) = operate [.ref l, .int i t] (getItem (.ref l) (.int i t)) := by intro _; with_unfolding_all rfl) : Ev c E (subscriptTail value slice a b) m σ Q := fun s S => by
  obtain ⟨t, rfl⟩ := er_int hb; obtain rfl := er_ref ha
  obtain ⟨items, n, h1, h2⟩ := hl.at S
  obtain ⟨val, h3, h4⟩ := item_at h2 hv
  exact tail_any h1.isList.typeIs slot_list_getitem.lookup (wpAny_getItem_list h1.isList h0 h63 (by rw [← Array.getElem?_toList]; exact h3) (done (.refl S) (h4 ▸ h))) (hs t)
theorem sub_tuple {value slice : Expr} {xs : List V} {i : Int} {l : Addr} {a b : Value} (ha : er a = .ref l) (hb : er b = .int i) (hl : Sees c σ l (.tuple xs)) (h0 : 0 ≤ i) (h63 : i < 2 ^ 63) (hv : xs[i.toNat]? = some v) (h : Q v m σ)
    (hs : ∀ t, subscripted slice false (.ref l) (.int i t) = operate [.ref l, .int i t] (getItem (.ref l) (.int i t)) := by intro _; with_unfolding_all rfl) : Ev c E (subscriptTail value slice a b) m σ Q := fun s S => by
  obtain ⟨t, rfl⟩ := er_int hb; obtain rfl := er_ref ha
  obtain ⟨items, n, h1, h2⟩ := hl.at S
  obtain ⟨val, h3, h4⟩ := item_at h2 hv
  have hlt : i.toNat < items.toList.length := (List.getElem?_eq_some_iff.mp h3).1
  refine item_tupleT (l := items.toList) (j := i.toNat) ⟨_, h1, rfl, n, by simp⟩ (by omega) h63 ?_ h3 (done (.refl S) (h4 ▸ h)) (hs t)
  exact seqIndex_of h0 (by omega)
end
end Mine

namespace Mine
open PySem PySem.Calls PyProof.Rows PySem.SeqAt

theorem valueAt_stored (kvs : List (Str × Value)) (k x : Str) (v : Value) : valueAt (stored kvs k v) x = if x = k then some v else valueAt kvs x := by
  unfold stored valueAt
  split
  · rename_i h
    induction kvs with
    | nil => simp at h
    | cons p r ih =>
      by_cases hp : p.1 = k
      · by_cases hx : x = k
        · subst hx; simp [hp]
        · have hk : ¬ k = x := fun e => hx e.symm
          have hr : List.find? (fun kv => decide (kv.1 = x)) (List.map (fun kv => if kv.1 = k then (kv.1, v) else kv) r) = List.find? (fun kv => decide (kv.1 = x)) r := by
            clear ih h
            induction r with
            | nil => rfl
            | cons q r ih2 =>
              by_cases hq : q.1 = k
              · simp [hq, hk, ih2]
              · by_cases hqx : q.1 = x
                · subst hqx; simp [hq]
                · simp [hq, hqx, ih2]
          simp [hp, hx, hk, hr]
      · have h' : r.any (fun kv => decide (kv.1 = k)) = true := by simpa [hp] using h
        have := ih h'
        by_cases hpx : p.1 = x
        · subst hpx; simp [hp]
        · simpa [hp, hpx] using this
  · rename_i h
    by_cases hx : x = k
    · subst hx
      have : kvs.find? (fun kv => decide (kv.1 = x)) = none := by
        rw [List.find?_eq_none]; intro p hp e
        exact h (List.any_eq_true.mpr ⟨p, hp, e⟩)
      simp [this]
    · have hk : ¬ k = x := fun e => hx e.symm
      simp [hx, hk]
theorem keys_stored (kvs : List (Str × Value)) (k : Str) (v : Value) : (stored kvs k v).map (·.1) = if k ∈ kvs.map (·.1) then kvs.map (·.1) else kvs.map (·.1) ++ [k] := by
  unfold stored
  by_cases h : k ∈ kvs.map (·.1)
  · have : (kvs.any fun kv => decide (kv.1 = k)) = true := by
      obtain ⟨p, hp, e⟩ := List.mem_map.mp h
      exact List.any_eq_true.mpr ⟨p, hp, by simp [e]⟩
    rw [if_pos this, if_pos h, keys_map_store]
  · have : ¬ (kvs.any fun kv => decide (kv.1 = k)) = true := by
      rw [List.any_eq_true]; rintro ⟨p, hp, e⟩
      exact h (List.mem_map.mpr ⟨p, hp, of_decide_eq_true e⟩)
    rw [if_neg this, if_neg h]; simp
def addKey (ks : List Str) (k : Str) : List Str := if k ∈ ks then ks else ks ++ [k]

section
variable {c : Cx} {E : Value → Shared → Prop} {m : Vars} {σ : Hp} {env : Env} {x : Str} {pos : Pos} {v : V} {Q : V → Vars → Hp → Prop} {QU : Unit → Vars → Hp → Prop} {QF : Fl → Vars → Hp → Prop}

theorem set_dict {ks : List Str} {f : Str → Option V} {u : Str} {l : Addr} {a b d : Value} (ha : er a = .ref l) (hb : er b = .str u) (hd : er d = v) (hl : σ l = some (.dict ks f)) (hz : ks.length ≤ 1000)
    (h : QU () m (upd σ l (.dict (addKey ks u) (upd f u v)))) : W c E (setItem a b d) m σ QU := fun s S => by
  obtain ⟨t, rfl⟩ := er_str hb; obtain rfl := er_ref ha
  obtain ⟨h1, kvs, h2, h3, h4⟩ := (S.own l _ hl).1
  have hz' : kvs.length ≤ sizeLine := by rw [← h3, List.length_map] at hz; rw [sizeLine_eq]; omega
  refine wpAny_setItem_pairs (PySem.strKind_is c.prog c.w u t) h2 (fun h' k1 k2 => ⟨_, _, S.change (o' := .dict (addKey ks u) (upd f u v)) k2 hl ⟨h1, _, k1, ?_, fun k => ?_⟩, h⟩) hz'
  · rw [keys_stored, h3]; rfl
  · rw [valueAt_stored]
    unfold upd
    by_cases hk : k = u
    · simp [hk, hd]
    · simp [hk, h4]
theorem sub_arr {value slice : Expr} {xs : List V} {i : Int} {l : Addr} {a b : Value} (ha : er a = .ref l) (hb : er b = .int i) (hl : Sees c σ l (.arr xs)) (h0 : 0 ≤ i) (h63 : i < 2 ^ 63) (hv : xs[i.toNat]? = some v) (h : Q v m σ)
    (hs : ∀ t, subscripted slice false (.ref l) (.int i t) = operate [.ref l, .int i t] (getItem (.ref l) (.int i t)) := by intro _; with_unfolding_all rfl) : Ev c E (subscriptTail value slice a b) m σ Q := fun s S => by
  obtain ⟨t, rfl⟩ := er_int hb; obtain rfl := er_ref ha
  obtain ⟨items, h1, h2⟩ := hl.at S
  obtain ⟨val, h3, h4⟩ := item_at h2 hv
  exact tail_any h1.typeIs slot_list_getitem.lookup (wpAny_getItem_list h1 h0 h63 (by rw [← Array.getElem?_toList]; exact h3) (done (.refl S) (h4 ▸ h))) (hs t)

theorem append_ {e : Expr} {apos np : Pos} {pl : Sem Bool} (h : Ev c E (eval (.Name x np) env) m σ fun ov m₁ σ₁ => ∃ l, ov = .ref l ∧ (∃ ys, Sees c σ₁ l (.list ys)) ∧ Ev c E (eval e env) m₁ σ₁ fun v m₂ σ₂ => ∃ xs, σ₂ l = some (.list xs) ∧ xs.length ≤ 1000 ∧ Q .none m₂ (upd σ₂ l (.list (xs ++ [v]))))
    (hm : eval (.Call (.Attribute (.Name x np) (Str.ofString "append") apos) [e] [] pos) env = (do
      let ov ← eval (.Name x np) env
      standAt apos.atName
      let (f, first) ← holding [ov] (getMethod ov (Str.ofString "append") pl)
      callWith pos f first (backTo pos (starEach [e] env)) []) := by rfl)
    (he : starEach [e] env = (false, eval e env) :: starEach [] env := by rfl) : Ev c E (eval (.Call (.Attribute (.Name x np) (Str.ofString "append") apos) [e] [] pos) env) m σ Q := fun s S => by
  refine MethodCall_ (pl := pl) (W.step h S fun ov s₁ m₁ σ₁ p q => ?_) hm
  obtain ⟨l, e1, ⟨ys, hs⟩, q⟩ := q
  obtain rfl := er_ref e1
  obtain ⟨items, n, h1, h2⟩ := hs.at p.st
  refine getMethod_list_append h1 rfl rfl ?_
  rw [he]
  refine P.append_list (W.step q p.st fun val s₂ m₂ σ₂ p₂ q₂ => ?_)
  obtain ⟨xs, k1, k2, k3⟩ := q₂
  obtain ⟨items, n, h1, h2⟩ := (p₂.st.own l _ k1).1
  have hsz : items.size ≤ sizeLine := by have := congrArg List.length h2; simp at this; rw [sizeLine_eq]; omega
  refine ⟨items, n, hsz, h1, done (val := .none) ((p.trans p₂).trans (p₂.st.change (tk := s₂.toks) (o' := .list (xs ++ [er val])) (Heap.SameBut.update ..) k1 ⟨_, _, h1.update _, ?_⟩)) k3⟩
  simp [h2]

theorem op_addl {xs ys : List V} {l k : Addr} {a b : Value} (ha : er a = .ref l) (hb : er b = .ref k) (hl : Sees c σ l (.list xs)) (hk : Sees c σ k (.list ys)) (hz : xs.length + ys.length ≤ 1000)
    (h : ∀ r, σ r = none → Q (.ref r) m (upd σ r (.list (xs ++ ys)))) : Ev c E (binaryOp .Add a b) m σ Q := fun s S => by
  obtain rfl := er_ref ha; obtain rfl := er_ref hb
  obtain ⟨i1, n1, h1, h2⟩ := hl.at S
  obtain ⟨i2, n2, h3, h4⟩ := hk.at S
  have e1 := congrArg List.length h2
  have e2 := congrArg List.length h4
  simp at e1 e2
  obtain ⟨p, hn⟩ := S.push (tk := s.toks) (x := { cls := .type "list", data := .seq (i1 ++ i2) }) (o := .list (xs ++ ys)) ⟨_, _, IsL.new _ _, by simp [h2, h4]⟩
  exact P.add_list h1 h3 (done p (h _ hn)) (by rw [sizeLine_eq]; omega)

/-! slices of a list: [a:], [:b], [:], [::-1] -/
theorem slice_from {value lo : Expr} {p : Pos} (h : Ev c E (eval value env) m σ fun ov m₁ σ₁ => Ev c E (eval lo env) m₁ σ₁ fun iv m₂ σ₂ => ∃ l xs a, ov = .ref l ∧ iv = .int (a : Nat) ∧ Sees c σ₂ l (.list xs) ∧ xs.length ≤ 1000 ∧
      ∀ r, σ₂ r = none → Q (.ref r) m₂ (upd σ₂ r (.list (xs.drop a)))) (ht : ∀ o r, letTemporaryGo value o r = pure () ∨ True := by intro _ _; exact .inr trivial) :
    Ev c E (eval (.Subscript value (.Slice (some lo) none none p) pos) env) m σ Q := fun s S => by
  refine Subscript_ (W.step h S fun ov s₁ m₁ σ₁ p q => wpAny_Slice (W.step q p.st fun iv s₂ m₂ σ₂ p₂ q₂ => ?_))
  obtain ⟨l, xs, a, e1, e2, hs, hz, q₂⟩ := q₂
  obtain rfl := er_ref e1
  obtain ⟨t, rfl⟩ := er_int e2
  rw [evalPart_none]
  refine wpAny_pure (wpAny_pure ?_)
  have p₃ := p₂.st.pushed (tk := s₂.toks) (x := { cls := .type "slice", data := .fields #[.int (a : Nat) t, .none, .none] })
  obtain ⟨items, n, h1, h2⟩ := hs.at p₃.st
  have e3 := congrArg List.length h2
  simp at e3
  obtain ⟨p₄, hn⟩ := p₃.st.push (tk := s₂.toks) (x := { cls := .type "list", data := .seq (slicePick items (some (a : Int)) none none) }) (o := .list (xs.drop a)) ⟨_, _, IsL.new _ _, by rw [slicePick_from']; simp [h2]⟩
  exact tail_any h1.isList.typeIs slot_list_getitem.lookup (wpAny_getItem_list_slice h1.isList (Heap.IsSliceOf.new ..) (.int _ _) .none .none (by simp) (done ((p.trans p₂).trans (p₃.trans p₄)) (q₂ _ hn)) (by rw [sizeLine_eq]; omega)) (by with_unfolding_all rfl)
end
end Mine

namespace Mine
open PySem PySem.Calls PyProof.Rows PySem.SeqAt

abbrev NoE : Value → Shared → Prop := fun _ _ => False
def Room (n : Nat) (A : Around) : Prop := A.handled = none ∧ A.depth + n ≤ 900 ∧ A.units + 100 * n ≤ 9000
theorem Room.less {n k : Nat} {A : Around} (h : Room n A) (hk : k ≤ n) : Room k A := ⟨h.1, by have := h.2.1; omega, by have := h.2.2; omega⟩
theorem Room.deeper {n : Nat} {A : Around} (h : Room (n + 1) A) (env : Env) : Room n (A.deeper env) :=
  ⟨h.1, by have := h.2.1; show A.depth + 1 + n ≤ 900; omega, by have := h.2.2; show A.units + 3 + 100 * n ≤ 9000; omega⟩
theorem Room.units {n : Nat} {A : Around} (h : Room n A) : A.units < cLine := by have := h.2.2; show A.units < 9900; omega
theorem Room.depth {n : Nat} {A : Around} (h : Room n A) : A.depth < recursionLimit := by have := h.2.1; show A.depth < 1000; omega

/-- what a loop goes over -/
inductive Src where
  | list (a : Addr) (xs : List V)
  | range (n : Nat)
def Src.items : Src → List V
  | .list _ xs => xs
  | .range n => (List.range n).map fun i => V.int (i : Nat)
def Src.Ok (c : Cx) (σ : Hp) : Src → Prop
  | .list a xs => Sees c σ a (.list xs)
  | .range _ => True
def Src.At (p : Program) (w : World) (h : Heap) (I : Addr) (i : Nat) : Src → Prop
  | .list a xs => h.IsListIter I a i ∧ (O.list xs).At p w h a
  | .range n => IsRangeIter h I (i : Nat) ((n : Int) - (i : Nat)) 1
/-- the value at the loop's head stands for the source -/
def Src.Is (c : Cx) (σ : Hp) (v : V) : Src → Prop
  | .list a xs => v = .ref a ∧ Sees c σ a (.list xs)
  | .range n => ∃ a, v = .ref a ∧ Sees c σ a (.range n) ∧ n < 2 ^ 60

section
variable {c : Cx} {E : Value → Shared → Prop} {m : Vars} {σ : Hp} {env : Env} {x : Str} {pos : Pos} {v : V} {Q : V → Vars → Hp → Prop} {QU : Unit → Vars → Hp → Prop} {QF : Fl → Vars → Hp → Prop}

theorem pyIter_src {src : Src} {s : Shared} {val : Value} {R : Value → Shared → Prop} (S : St c m σ s) (hv : src.Is c σ (er val))
    (h : ∀ I h', s.heap.get? I = none → src.At c.prog c.w h' I 0 → (∀ b o, s.heap.get? b = some o → h'.get? b = some o) → R (.ref I) { s with heap := h' }) :
    wpAny c.M c.A (pyIter val) R E s := by
  have fresh : s.heap.get? s.heap.objs.size = none := by
    cases e : s.heap.get? s.heap.objs.size with
    | none => rfl
    | some o => exact absurd (Heap.lt_size e) (Nat.lt_irrefl _)
  cases src with
  | list a xs =>
    obtain ⟨e, hs⟩ := hv
    obtain rfl := er_ref e
    obtain ⟨items, n, h1, h2⟩ := hs.at S
    exact wpAny_pyIter_list h1.isList (h _ _ fresh ⟨⟨_, Heap.get?_push_size _ rfl, rfl, rfl⟩, ⟨items, n, h1.push _, h2⟩⟩ (fun _ _ e => Heap.get?_push_of_some _ e))
  | range n =>
    obtain ⟨a, e, hs, hn⟩ := hv
    obtain rfl := er_ref e
    obtain ⟨t, u, w, h1⟩ := hs.at S
    have hr : Builtin.Range.rangeSize 0 (n : Int) 1 = n := by rw [rangeSize_one]; split <;> omega
    refine wpAny_pyIter_range h1 (small_one (by omega) (by omega) (by omega) (by omega)) ?_
    rw [hr]
    refine h _ _ fresh ?_ (fun _ _ e => Heap.get?_push_of_some _ e)
    show IsRangeIter _ _ ((0 : Nat) : Int) ((n : Int) - (0 : Nat)) 1
    have : ((n : Int) - (0 : Nat)) = n := by omega
    rw [this]
    exact Heap.get?_push_size _ rfl

theorem pyNext_item {src : Src} {s : Shared} {I : Addr} {i : Nat} {u : V} {R : Option Value → Shared → Prop} (hat : src.At c.prog c.w s.heap I i) (hu : src.items[i]? = some u)
    (h : ∀ val h' tk, er val = u → Heap.SameBut I s.heap h' → (match src with | .list a _ => h'.IsListIter I a (i + 1) | .range n => IsRangeIter h' I ((i + 1 : Nat) : Int) ((n : Int) - (i + 1 : Nat)) 1) → R (some val) { s with heap := h', toks := tk }) :
    wpAny c.M c.A (pyNext (.ref I)) R E s := by
  cases src with
  | list a xs =>
    obtain ⟨h1, items, n, h2, h3⟩ := hat
    obtain ⟨val, h4, h5⟩ := item_at h3 hu
    exact wpAny_pyNext_list_item h1 h2.isList (by rw [← Array.getElem?_toList]; exact h4) fun h' k1 k2 => h val h' s.toks h5 k2 k1
  | range n =>
    have hi : i < n ∧ V.int (i : Nat) = u := by
      simp only [Src.items, List.getElem?_map] at hu
      cases e : (List.range n)[i]? with
      | none => rw [e] at hu; cases hu
      | some j =>
        rw [e] at hu
        have := List.getElem?_eq_some_iff.mp e
        obtain ⟨k1, k2⟩ := this
        simp at k1 k2
        subst k2
        exact ⟨k1, Option.some.inj hu⟩
    refine wpAny_pyNext_range_item (x := (i : Nat)) (left := (n : Int) - (i : Nat)) (step := 1) hat (by omega) fun h' k1 k2 => h _ h' _ hi.2 k2 ?_
    show IsRangeIter h' I ((i + 1 : Nat) : Int) ((n : Int) - (i + 1 : Nat)) 1
    have e1 : ((i : Nat) : Int) + 1 = ((i + 1 : Nat) : Int) := by omega
    have e2 : (n : Int) - (i : Nat) - 1 = (n : Int) - (i + 1 : Nat) := by omega
    rw [e1, e2] at k1
    exact k1
theorem pyNext_end {src : Src} {s : Shared} {I : Addr} {i : Nat} {R : Option Value → Shared → Prop} (hh : c.A.handled = none) (hat : src.At c.prog c.w s.heap I i) (hu : src.items[i]? = none)
    (h : ∀ h', Heap.ExtBut I s.heap h' → R none { s with heap := h' }) : wpAny c.M c.A (pyNext (.ref I)) R E s := by
  cases src with
  | list a xs =>
    obtain ⟨h1, items, n, h2, h3⟩ := hat
    refine wpAny_pyNext_list_end hh h1 h2.isList ?_ h
    have e := congrArg List.length h3
    simp only [Src.items, List.getElem?_eq_none_iff] at hu
    simp at e
    simp; omega
  | range n =>
    have hi : n ≤ i := by simpa [Src.items] using hu
    exact wpAny_pyNext_range_end (x := (i : Nat)) (left := (n : Int) - (i : Nat)) (step := 1) hh hat (by omega) h

/-- an untracked object (an iterator, a growing list) is changed: nothing known is touched -/
theorem Pst.other {s s' : Shared} {m' : Vars} {σ' : Hp} {I : Addr} {h' : Heap} {tk : Nat} (p : Pst c σ s m' σ' s') (hI : s.heap.get? I = none) (hL : I ≠ c.L) (hσ : σ' I = none) (hs : Heap.ExtBut I s'.heap h') (hg : c.g.get? I = none) :
    Pst c σ s m' σ' { s' with heap := h', toks := tk } := by
  refine ⟨⟨?_, fun b o e => ?_, fun a o e => ?_, p.st.above, p.st.gens, p.st.os⟩, fun b o hb hn e => ?_, p.dom⟩
  · obtain ⟨m₀, h1, h2⟩ := p.st.ns
    exact ⟨m₀, h1.extBut hs (Ne.symm hL), h2⟩
  · exact hs b o (fun q => by rw [q, hg] at e; cases e) (p.st.keep b o e)
  · obtain ⟨h1, h2⟩ := p.st.own a o e
    exact ⟨h1.keeps fun y hy => hs a y (fun q => by rw [q, hσ] at e; cases e) hy, h2⟩
  · exact hs b o (fun q => by rw [q, hI] at e; cases e) (p.frame b o hb hn e)

theorem St.hole (S : St c m σ s) {I : Addr} (h : s.heap.get? I = none) : I ≠ c.L ∧ c.g.get? I = none ∧ σ I = none := by
  refine ⟨fun e => ?_, ?_, ?_⟩
  · obtain ⟨_, ⟨_, _, _, h1, _⟩, _⟩ := S.ns
    rw [e, h1] at h; cases h
  · cases e : c.g.get? I with
    | none => rfl
    | some o => rw [S.keep I o e] at h; cases h
  · cases e : σ I with
    | none => rfl
    | some o => obtain ⟨y, q⟩ := (S.own I o e).1.some; rw [q] at h; cases h

/-- a turn's end, for a for or a while -/
def Turn (Next : Vars → Hp → Prop) (QF : Fl → Vars → Hp → Prop) : Fl → Vars → Hp → Prop := fun f m σ => match f with
  | .next => Next m σ
  | .cont => Next m σ
  | .brk => QF .next m σ
  | .ret v => QF (.ret v) m σ

theorem forx {target iter : Expr} {body : List Stmt} (hh : c.A.handled = none)
    (h : Ev c E (eval iter env) m σ fun v m₁ σ₁ => ∃ (src : Src) (Inv : Nat → Vars → Hp → Prop), src.Is c σ₁ v ∧ Inv 0 m₁ σ₁ ∧ (∀ i m σ, Inv i m σ → src.Ok c σ) ∧
      (∀ i m σ u, Inv i m σ → src.items[i]? = some u → ∀ val, er val = u → W c NoE (assign target env val) m σ fun _ m₂ σ₂ => X c NoE (execs body env) m₂ σ₂ (Turn (Inv (i + 1)) QF)) ∧ (∀ m σ, Inv src.items.length m σ → QF .next m σ))
    (hs : ∀ x, foldedSetIterable iter env x = pure x := by intro _; rfl) (ht : ∀ it v, letOwnedTupleGo target it v = pure () := by intro _ _; rfl) :
    X c E (exec (.For target iter body [] pos) env) m σ QF := fun s S => by
  refine wpAny_For (W.step h S fun val s₁ m₁ σ₁ p ⟨src, Inv, qi, q0, ok, turn, fin⟩ => pyIter_src p.st qi fun I h' hI hat hk => ?_) hs
  have hole := p.st.hole hI
  have p₁ : Pst c σ s m₁ σ₁ { s₁ with heap := h' } := p.trans (p.st.keeps (tk := s₁.toks) hk)
  refine codeAny_forLoop (R := _) (fun k s' => ∃ i m' σ', Pst c σ₁ s₁ m' σ' s' ∧ Inv i m' σ' ∧ src.At c.prog c.w s'.heap I i ∧ σ' I = none ∧ i ≤ src.items.length ∧ k = src.items.length + 1 - i)
    ?_ (src.items.length + 1) ⟨0, m₁, σ₁, p.st.keeps (tk := s₁.toks) hk, q0, hat, hole.2.2, Nat.zero_le _, rfl⟩ (ht (.ref I))
  rintro k s' ⟨i, m', σ', P, hInv, hat', hσI, hi, rfl⟩
  cases hu : src.items[i]? with
  | none =>
    have hlen : i = src.items.length := Nat.le_antisymm hi (by simpa using hu)
    refine pyNext_end hh hat' hu fun h'' hx => wpAny_execs_nil ?_
    exact ⟨m', σ', p.trans (P.other (tk := s'.toks) hI hole.1 hσI hx hole.2.1), fin _ _ (hlen ▸ hInv)⟩
  | some u =>
    have hlt : i < src.items.length := (List.getElem?_eq_some_iff.mp hu).1
    refine pyNext_item hat' hu fun uv h'' tk he hsb hat'' => ?_
    have P₁ := P.other (tk := tk) hI hole.1 hσI hsb.extBut hole.2.1
    refine wpAny_mono (turn i m' σ' u hInv hu uv he _ P₁.st) (fun _ s₃ ⟨m₂, σ₂, p₂, q₂⟩ => ?_) fun _ _ e => e.elim
    refine wpAny_mono (q₂ _ p₂.st) (fun f s₄ ⟨m₃, σ₃, p₃, q₃⟩ => ?_) fun _ _ e => e.elim
    have p₂₃ := p₂.trans p₃
    have P₂ := P₁.trans p₂₃
    have goes : Inv (i + 1) m₃ σ₃ → ∃ k, k < src.items.length + 1 - i ∧ ∃ i m' σ', Pst c σ₁ s₁ m' σ' s₄ ∧ Inv i m' σ' ∧ src.At c.prog c.w s₄.heap I i ∧ σ' I = none ∧ i ≤ src.items.length ∧ k = src.items.length + 1 - i := fun hI' => by
      have hIo : ∃ o, h''.get? I = some o := by
        revert hat''
        cases src with
        | list a xs => rintro ⟨o, h1, _⟩; exact ⟨o, h1⟩
        | range n => intro h1; exact ⟨_, h1⟩
      obtain ⟨oI, hIo⟩ := hIo
      have hI4 : s₄.heap.get? I = some oI := p₂₃.frame I oI hole.1 hσI hIo
      refine ⟨src.items.length + 1 - (i + 1), by omega, i + 1, m₃, σ₃, P₂, hI', ?_, ?_, hlt, rfl⟩
      · have hok := ok _ _ _ hI'
        revert hat'' hok
        cases src with
        | list a xs =>
          rintro ⟨o, h1, h2⟩ hok
          rw [hIo] at h1; cases h1
          exact ⟨⟨oI, hI4, h2⟩, hok.at P₂.st⟩
        | range n =>
          intro h1 _
          exact hI4.trans (hIo.symm.trans h1)
      · cases e : σ₃ I with
        | none => rfl
        | some o => have := p₂₃.dom I o e hσI; rw [show h''.get? I = some oI from hIo] at this; cases this
    cases f with
    | next => exact goes q₃
    | cont => exact goes q₃
    | brk => exact ⟨m₃, σ₃, p.trans P₂, q₃⟩
    | ret rv => exact ⟨m₃, σ₃, p.trans P₂, q₃⟩

/-! many facts at once -/
structure And3 (p1 p2 p3 : Prop) : Prop where
  h1 : p1
  h2 : p2
  h3 : p3
structure And4 (p1 p2 p3 p4 : Prop) : Prop where
  h1 : p1
  h2 : p2
  h3 : p3
  h4 : p4
structure And5 (p1 p2 p3 p4 p5 : Prop) : Prop where
  h1 : p1
  h2 : p2
  h3 : p3
  h4 : p4
  h5 : p5
structure And6 (p1 p2 p3 p4 p5 p6 : Prop) : Prop where
  h1 : p1
  h2 : p2
  h3 : p3
  h4 : p4
  h5 : p5
  h6 : p6
structure And7 (p1 p2 p3 p4 p5 p6 p7 : Prop) : Prop where
  h1 : p1
  h2 : p2
  h3 : p3
  h4 : p4
  h5 : p5
  h6 : p6
  h7 : p7
structure And8 (p1 p2 p3 p4 p5 p6 p7 p8 : Prop) : Prop where
  h1 : p1
  h2 : p2
  h3 : p3
  h4 : p4
  h5 : p5
  h6 : p6
  h7 : p7
  h8 : p8
structure And9 (p1 p2 p3 p4 p5 p6 p7 p8 p9 : Prop) : Prop where
  h1 : p1
  h2 : p2
  h3 : p3
  h4 : p4
  h5 : p5
  h6 : p6
  h7 : p7
  h8 : p8
  h9 : p9
structure And10 (p1 p2 p3 p4 p5 p6 p7 p8 p9 p10 : Prop) : Prop where
  h1 : p1
  h2 : p2
  h3 : p3
  h4 : p4
  h5 : p5
  h6 : p6
  h7 : p7
  h8 : p8
  h9 : p9
  h10 : p10
structure And12 (p1 p2 p3 p4 p5 p6 p7 p8 p9 p10 p11 p12 : Prop) : Prop where
  h1 : p1
  h2 : p2
  h3 : p3
  h4 : p4
  h5 : p5
  h6 : p6
  h7 : p7
  h8 : p8
  h9 : p9
  h10 : p10
  h11 : p11
  h12 : p12
structure And13 (p1 p2 p3 p4 p5 p6 p7 p8 p9 p10 p11 p12 p13 : Prop) : Prop where
  h1 : p1
  h2 : p2
  h3 : p3
  h4 : p4
  h5 : p5
  h6 : p6
  h7 : p7
  h8 : p8
  h9 : p9
  h10 : p10
  h11 : p11
  h12 : p12
  h13 : p13
structure And14 (p1 p2 p3 p4 p5 p6 p7 p8 p9 p10 p11 p12 p13 p14 : Prop) : Prop where
  h1 : p1
  h2 : p2
  h3 : p3
  h4 : p4
  h5 : p5
  h6 : p6
  h7 : p7
  h8 : p8
  h9 : p9
  h10 : p10
  h11 : p11
  h12 : p12
  h13 : p13
  h14 : p14
structure And19 (p1 p2 p3 p4 p5 p6 p7 p8 p9 p10 p11 p12 p13 p14 p15 p16 p17 p18 p19 : Prop) : Prop where
  h1 : p1
  h2 : p2
  h3 : p3
  h4 : p4
  h5 : p5
  h6 : p6
  h7 : p7
  h8 : p8
  h9 : p9
  h10 : p10
  h11 : p11
  h12 : p12
  h13 : p13
  h14 : p14
  h15 : p15
  h16 : p16
  h17 : p17
  h18 : p18
  h19 : p19
/-- a post that another leads to: stands for it, small, through a walk -/
def Leads (Q₁ Q : Fl → Vars → Hp → Prop) : Prop := ∀ f m σ, Q₁ f m σ → Q f m σ
theorem Leads.refl {Q : Fl → Vars → Hp → Prop} : Leads Q Q := fun _ _ _ h => h
theorem Leads.go {Q₁ Q : Fl → Vars → Hp → Prop} {f : Fl} {m : Vars} {σ : Hp} (h : Leads Q₁ Q) (h₁ : Q₁ f m σ) : Q f m σ := h f m σ h₁

theorem for_ {target iter : Expr} {body : List Stmt} (hh : c.A.handled = none) (src : V → Src) (Inv : V → Nat → Vars → Hp → Prop)
    (h : Ev c E (eval iter env) m σ fun v m₁ σ₁ => (src v).Is c σ₁ v ∧ Inv v 0 m₁ σ₁)
    (ok : ∀ v i m σ, Inv v i m σ → (src v).Ok c σ)
    (turn : ∀ v i m σ u, Inv v i m σ → (src v).items[i]? = some u → ∀ val, er val = u → ∀ Q, Leads (Turn (Inv v (i + 1)) QF) Q → W c NoE (assign target env val) m σ fun _ m₂ σ₂ => X c NoE (execs body env) m₂ σ₂ Q)
    (fin : ∀ v m σ, Inv v (src v).items.length m σ → QF .next m σ)
    (hs : ∀ x, foldedSetIterable iter env x = pure x := by intro _; rfl) (ht : ∀ it v, letOwnedTupleGo target it v = pure () := by intro _ _; rfl) :
    X c E (exec (.For target iter body [] pos) env) m σ QF :=
  forx hh (W.mono h fun v m₁ σ₁ q => ⟨src (er v), Inv (er v), q.1, q.2, ok _, fun i m σ u a b val e => turn _ i m σ u a b val e _ Leads.refl, fin _⟩) hs ht

theorem while_ {test : Expr} {body : List Stmt} (Inv : Nat → Vars → Hp → Prop) (n : Nat) (h0 : Inv n m σ)
    (turn : ∀ n m σ, Inv n m σ → ∀ Q, Leads (Turn (fun m₂ σ₂ => ∃ k, k < n ∧ Inv k m₂ σ₂) QF) Q → W c NoE (isTrue test env (eval test env)) m σ fun b m₁ σ₁ => (b = true → X c NoE (execs body env) m₁ σ₁ Q) ∧ (b = false → QF .next m₁ σ₁)) :
    X c E (exec (.While test body [] pos) env) m σ QF := fun s S => by
  refine wpAny_While (codeAny_whileLoop (fun k s' => ∃ m' σ', Pst c σ s m' σ' s' ∧ Inv k m' σ') ?_ n ⟨m, σ, .refl S, h0⟩)
  rintro k s' ⟨m', σ', P, hI⟩
  refine wpAny_mono (turn k m' σ' hI _ Leads.refl s' P.st) (fun b s₁ ⟨m₁, σ₁, p, q⟩ => ?_) fun _ _ e => e.elim
  cases b with
  | true =>
    refine wpAny_mono (q.1 rfl s₁ p.st) (fun f s₂ ⟨m₂, σ₂, p₂, q₂⟩ => ?_) fun _ _ e => e.elim
    have P₂ := (P.trans p).trans p₂
    cases f with
    | next => obtain ⟨j, hj, q⟩ := q₂; exact ⟨j, hj, m₂, σ₂, P₂, q⟩
    | cont => obtain ⟨j, hj, q⟩ := q₂; exact ⟨j, hj, m₂, σ₂, P₂, q⟩
    | brk => exact ⟨m₂, σ₂, P₂, q₂⟩
    | ret rv => exact ⟨m₂, σ₂, P₂, q₂⟩
  | false => exact wpAny_execs_nil ⟨m₁, σ₁, P.trans p, q.2 rfl⟩
end
end Mine

namespace Mine
open PySem PySem.Calls PyProof.Rows PySem.SeqAt

theorem strsAre {vs : List Value} : ∀ {ss : List Str}, vs.map er = ss.map V.str → StrsAre vs ss := by
  induction vs with
  | nil => intro ss h; cases ss with | nil => exact .nil | cons _ _ => simp at h
  | cons v vs ih =>
    intro ss h
    cases ss with
    | nil => simp at h
    | cons x ss =>
      simp only [List.map_cons, List.cons.injEq] at h
      obtain ⟨t, rfl⟩ := er_str h.1
      exact .cons x t (ih h.2)
theorem strsAre_er {vs : List Value} {ss : List Str} (h : StrsAre vs ss) : vs.map er = ss.map V.str := by
  induction h with
  | nil => rfl
  | cons y t _ ih => simp [er, ih]
theorem boolsAre {vs : List Value} : ∀ {bs : List Bool}, vs.map er = bs.map V.bool → LSm.BoolsAre vs bs := by
  induction vs with
  | nil => intro ss h; cases ss with | nil => exact .nil | cons _ _ => simp at h
  | cons v vs ih =>
    intro ss h
    cases ss with
    | nil => simp at h
    | cons x ss =>
      simp only [List.map_cons, List.cons.injEq] at h
      obtain rfl := er_bool h.1
      exact .cons x (ih h.2)

section
variable {c : Cx} {E : Value → Shared → Prop} {m : Vars} {σ : Hp} {env : Env} {x : Str} {pos : Pos} {v : V} {Q : V → Vars → Hp → Prop} {QU : Unit → Vars → Hp → Prop} {QF : Fl → Vars → Hp → Prop}

theorem call_blt {func e : Expr} {rest : List Expr} (h : Ev c E (eval func env) m σ fun fv m₁ σ₁ => ∃ id, fv = .blt id ∧ Evs c E (spliced (backTo pos (starEach (e :: rest) env))) m₁ σ₁ fun vs m₂ σ₂ => ∀ vals, vals.map er = vs → Ev c E (call (.builtin id) vals) m₂ σ₂ Q)
    (he' : eval (.Call func (e :: rest) [] pos) env = (do callWith pos (← eval func env) [] (backTo pos (starEach (e :: rest) env)) (backToKw pos (keywordEach [] env))) := by rfl)
    (he : starEach (e :: rest) env = (false, eval e env) :: starEach rest env := by rfl) (hplain : (backTo pos (starEach rest env)).any (·.1) = false := by rfl) : Ev c E (eval (.Call func (e :: rest) [] pos) env) m σ Q := fun s S => by
  refine Call_ (W.step h S fun fv s₁ m₁ σ₁ p q => ?_) he'
  obtain ⟨id, e1, q⟩ := q
  rw [er_blt e1]
  exact callWith_builtin1 (W.step q p.st fun vs s₂ m₂ σ₂ p₂ q₂ => W.step (q₂ vs rfl) p₂.st fun _ _ _ _ p₃ q₃ => done ((p.trans p₂).trans p₃) q₃) he hplain
theorem call_typ {func e : Expr} {rest : List Expr} (h : Ev c E (eval func env) m σ fun fv m₁ σ₁ => ∃ id, fv = .ty id ∧ Evs c E (spliced (backTo pos (starEach (e :: rest) env))) m₁ σ₁ fun vs m₂ σ₂ => ∀ vals, vals.map er = vs → Ev c E (call (.type id) vals) m₂ σ₂ Q)
    (he' : eval (.Call func (e :: rest) [] pos) env = (do callWith pos (← eval func env) [] (backTo pos (starEach (e :: rest) env)) (backToKw pos (keywordEach [] env))) := by rfl)
    (he : starEach (e :: rest) env = (false, eval e env) :: starEach rest env := by rfl) (hplain : (backTo pos (starEach rest env)).any (·.1) = false := by rfl) : Ev c E (eval (.Call func (e :: rest) [] pos) env) m σ Q := fun s S => by
  refine Call_ (W.step h S fun fv s₁ m₁ σ₁ p q => ?_) he'
  obtain ⟨id, e1, q⟩ := q
  rw [er_ty e1]
  exact callWith_type1 (W.step q p.st fun vs s₂ m₂ σ₂ p₂ q₂ => W.step (q₂ vs rfl) p₂.st fun _ _ _ _ p₃ q₃ => done ((p.trans p₂).trans p₃) q₃) he hplain

theorem one_val {vals : List Value} {u : V} (h : vals.map er = [u]) : ∃ a, vals = [a] ∧ er a = u := by
  obtain ⟨a, rfl⟩ := List.length_eq_one_iff.mp (show vals.length = 1 by simpa using congrArg List.length h)
  exact ⟨a, rfl, by simpa using h⟩

theorem f_len {vals : List Value} {l : Addr} {xs : List V} (hv : vals.map er = [.ref l]) (hl : Sees c σ l (.list xs)) (hz : xs.length ≤ 1000) (h : Q (.int (xs.length : Nat)) m σ) : Ev c E (call (.builtin "len") vals) m σ Q := fun s S => by
  obtain ⟨a, rfl, e⟩ := one_val hv
  obtain rfl := er_ref e
  obtain ⟨items, n, h1, h2⟩ := hl.at S
  have e1 : items.size = xs.length := by simpa using congrArg List.length h2
  exact call_len_list h1.isList (by omega) (done (S.toks _) (by rw [e1]; exact h))
theorem f_len_tuple {vals : List Value} {l : Addr} {xs : List V} (hv : vals.map er = [.ref l]) (hl : Sees c σ l (.tuple xs)) (hz : xs.length ≤ 1000) (h : Q (.int (xs.length : Nat)) m σ) : Ev c E (call (.builtin "len") vals) m σ Q := fun s S => by
  obtain ⟨a, rfl, e⟩ := one_val hv
  obtain rfl := er_ref e
  obtain ⟨items, n, h1, h2⟩ := hl.at S
  have e1 : items.size = xs.length := by simpa using congrArg List.length h2
  exact len_tuple ⟨_, h1, rfl, n, rfl⟩ (by omega) (done (S.toks _) (by rw [e1]; exact h))
theorem f_sorted {vals : List Value} {l : Addr} {ss : List Str} (hv : vals.map er = [.ref l]) (hl : Sees c σ l (.list (ss.map V.str))) (hz : ss.length < 64)
    (h : ∀ r ss', σ r = none → ss'.Perm ss → sortedS ss' = true → Q (.ref r) m (upd σ r (.list (ss'.map V.str)))) : Ev c E (call (.builtin "sorted") vals) m σ Q := fun s S => by
  obtain ⟨a, rfl, e⟩ := one_val hv
  obtain rfl := er_ref e
  obtain ⟨items, n, h1, h2⟩ := hl.at S
  have e1 : items.size = ss.length := by simpa using congrArg List.length h2
  refine sorted_strs (vs := items.toList) (by simpa using h1.isList) (strsAre h2) (by simpa [e1] using hz) fun out ss' k1 k2 k3 => ?_
  obtain ⟨ep, he⟩ := sortedAll_at s.heap items.toList out
  have hn : s.heap.get? (s.heap.objs.size + 1) = none := by
    cases q : s.heap.get? (s.heap.objs.size + 1) with
    | none => rfl
    | some o => exact absurd (Heap.lt_size q) (Nat.not_lt_of_le (Nat.le_succ _))
  obtain ⟨p, hσ⟩ := S.alloc (tk := s.toks) (o := .list (ss'.map V.str)) (fun b o e => sortedAll_old e) hn ⟨out, ep, he, strsAre_er k1⟩
  exact done p (h _ ss' hσ k2 k3)
theorem f_all {vals : List Value} {l : Addr} {bs : List Bool} (hh : c.A.handled = none) (hv : vals.map er = [.ref l]) (hl : Sees c σ l (.list (bs.map V.bool))) (h : Q (.bool (bs.all id)) m σ) : Ev c E (call (.builtin "all") vals) m σ Q := fun s S => by
  obtain ⟨a, rfl, e⟩ := one_val hv
  obtain rfl := er_ref e
  obtain ⟨items, n, h1, h2⟩ := hl.at S
  have hb := boolsAre h2
  have hlt : l < s.heap.objs.size := Heap.lt_size h1
  refine call_all_walk (wpAny_pyIter_list h1.isList ?_)
  refine ⟨s.heap.objs.size, [s.heap.objs.size, l], [s.heap.objs.size], items.size, _, _, fun i => (bs[i]?).getD true, rfl, Walks.list (A := c.A.in1) hh _ l (Nat.ne_of_lt hlt) items,
    ⟨⟨_, Heap.get?_push_size _ rfl, rfl, rfl⟩, h1.isList.push _⟩, fun i v s' Q' E' hP hQ => ?_, fun h' tk hk => ?_⟩
  · obtain ⟨b, e, rfl⟩ := hb.get i v (by simpa using hP)
    simp only [e, Option.getD_some] at hQ
    exact wpAny_truthy_bool hQ
  · have e1 : items.size = bs.length := by simpa using congrArg List.length h2
    have e : ((List.range items.size).all fun i => (bs[i]?).getD true) = bs.all id := by rw [e1]; exact LSm.range_all bs
    rw [e]
    exact done (val := .bool (bs.all id)) (S.keeps (tk := tk) (LSm.kept_iter hk)) h
theorem f_range {vals : List Value} {n : Int} (hv : vals.map er = [.int n]) (h : ∀ r, σ r = none → Q (.ref r) m (upd σ r (.range n))) : Ev c E (call (.type "range") vals) m σ Q := fun s S => by
  obtain ⟨a, rfl, e⟩ := one_val hv
  obtain ⟨t, rfl⟩ := er_int e
  obtain ⟨p, hσ⟩ := S.push (tk := s.toks + 1 + 1) (x := { cls := .type "range", data := .fields #[.int 0 s.toks, .int n t, .int 1 (s.toks + 1)] }) (o := .range n) ⟨_, _, _, Heap.get?_push_size _ rfl⟩
  exact call_range_1 (done p (h _ hσ))

end
end Mine

namespace Mine
open PySem PySem.Calls PyProof.Rows PySem.SeqAt

/-- what may be read -/
abbrev Vw := Addr → O → Prop
def own (σ : Hp) : Vw := fun a o => σ a = some o
/-- the module's names -/
structure Mod where
  p : Program
  q : Program
  w : World
  loose : List Str
  mean : ExcName → Option Value
  mg : Str → Option Value
  mb : Str → Option Value
def Mod.Top (M : Mod) (h : Heap) : Prop := PyProof.Rows.Top M.q M.loose M.mean M.mg M.mb h
theorem Mod.Top.keeps {M : Mod} {h h' : Heap} (T : M.Top h) (k : ∀ b o, h.get? b = some o → h'.get? b = some o) : M.Top h' := PyProof.Rows.Top.keeps T k

def Mono (P : Vw → Prop) : Prop := ∀ A B : Vw, (∀ a o, A a o → B a o) → P A → P B

/-- the module has this def -/
def Fn (M : Mod) (f : Str) : Prop := ∀ h, M.Top h → ∃ fa o fd, M.mg f = some (.ref fa) ∧ h.get? fa = some o ∧ o.data = .func fd

/-- what a def of the module does, called with these arguments where Pre holds -/
structure Spec (M : Mod) (n : Nat) (f : Str) (args : List V) (Pre : Vw → Prop) (R : V → Vw → Prop) : Prop where
  mono : Mono Pre
  monoR : ∀ v, Mono (R v)
  run : ∀ (A : Around) (s : Shared) (fa : Addr) (vals : List Value), Room n A → M.Top s.heap → M.mg f = some (.ref fa) → vals.map er = args → Pre (fun a o => o.At M.p M.w s.heap a) → s.gens = #[] →
    codeAny (model M.p M.w) A (.call (.ref fa) ⟨vals, []⟩) (fun r s' => ∃ v σ', r = .ok (.ret v) ∧ (∀ b o, s.heap.get? b = some o → s'.heap.get? b = some o) ∧ s'.gens = #[] ∧ s'.os = s.os ∧
      (∀ a o, σ' a = some o → o.At M.p M.w s'.heap a ∧ s.heap.get? a = none) ∧ R (er v) (own σ')) s

/-- what a call has made -/
def made (σ₁ σ₂ : Hp) : Vw := fun a o => σ₂ a = some o ∧ σ₁ a = none

def merge (σ σ' : Hp) : Hp := fun a => (σ a).or (σ' a)

section
variable {M : Mod} {c : Cx} {E : Value → Shared → Prop} {m : Vars} {σ : Hp} {env : Env} {x : Str} {pos : Pos} {v : V} {Q : V → Vars → Hp → Prop} {QF : Fl → Vars → Hp → Prop}

/-- the frame stands in the module -/
structure In (M : Mod) (c : Cx) (env : Env) (n : Nat) : Prop where
  env : EnvOk c env
  p : c.prog = M.p
  w : c.w = M.w
  top : M.Top c.g
  room : Room n c.A

theorem call_defN {f : Str} {np : Pos} {e : Expr} {rest : List Expr} {k : Nat} (I : In M c env k) (hk : env.kindOf f = some .globalImplicit) (hF : Fn M f)
    (h : Evs c E (spliced (backTo pos (starEach (e :: rest) env))) m σ fun vs m₁ σ₁ => ∃ n Pre R, Spec M n f vs Pre R ∧ n ≤ k ∧ Pre (Sees c σ₁) ∧ ∀ v σ₂, (∀ a o, σ₁ a = some o → σ₂ a = some o) → R v (made σ₁ σ₂) → Q v m₁ σ₂)
    (he' : eval (.Call (.Name f np) (e :: rest) [] pos) env = (do callWith pos (← eval (.Name f np) env) [] (backTo pos (starEach (e :: rest) env)) (backToKw pos (keywordEach [] env))) := by rfl)
    (he : starEach (e :: rest) env = (false, eval e env) :: starEach rest env := by rfl) (hd : (f == ("__debug__" : Str)) = false := by decide) : Ev c E (eval (.Call (.Name f np) (e :: rest) [] pos) env) m σ Q := fun s St₀ => by
  obtain ⟨fa, o, fd, hmg, ho, hdat⟩ := hF c.g I.top
  refine Call_ ?_ he'
  refine Name_function_global I.env.kind hk (loadGlobal_global (I.env.glob ▸ I.top.g.keeps St₀.keep) hmg ?_) hd
  refine callWith_def hdat (W.step h St₀ fun vs s₁ m₁ σ₁ p q => ⟨p.st.keep _ _ ho, ?_⟩) he
  obtain ⟨n, Pre, R, S, hn, hpre, q⟩ := q
  have hpre' : Pre (fun a o => o.At M.p M.w s₁.heap a) := S.mono _ _ (fun a o hs => by have := Sees.at hs p.st; rw [I.p, I.w] at this; exact this) hpre
  have hrun := S.run c.A s₁ fa vs (I.room.less hn) (I.top.keeps p.st.keep) hmg rfl hpre' p.st.gens
  have hM : c.M = model M.p M.w := by unfold Cx.M; rw [I.p, I.w]
  refine wpAny_call (codeAny_mono (by rw [hM]; exact hrun) fun r s' hr => ?_)
  obtain ⟨v, σ', rfl, k1, k2, k3, k4, k5⟩ := hr
  have p₂ : Pst c σ₁ s₁ m₁ (merge σ₁ σ') s' := by
    have hnew : ∀ a o, σ' a = some o → a ≠ c.L ∧ c.g.get? a = none ∧ σ₁ a = none := fun a o e => p.st.hole (k4 a o e).2
    refine ⟨⟨?_, fun b o e => k1 b o (p.st.keep b o e), fun a o e => ?_, p.st.above, k2, k3.trans p.st.os⟩, fun b o _ _ e => k1 b o e, fun b o e h2 => ?_⟩
    · obtain ⟨m', h1, h2⟩ := p.st.ns
      exact ⟨m', h1.keeps k1, h2⟩
    · unfold merge at e
      cases h1 : σ₁ a with
      | some o' =>
        rw [h1] at e
        cases e
        obtain ⟨q1, q2⟩ := p.st.own a o h1
        exact ⟨q1.keeps fun y hy => k1 a y hy, q2⟩
      | none =>
        rw [h1] at e
        have e : σ' a = some o := e
        refine ⟨?_, (hnew a o e).1, (hnew a o e).2.1⟩
        rw [I.p, I.w]; exact (k4 a o e).1
    · unfold merge at e
      rw [h2] at e
      exact (k4 b o e).2
  refine done (p.trans p₂) (q _ _ (fun a o e => by unfold merge; rw [e]; rfl) (S.monoR _ _ _ (fun a o e => ?_) k5))
  have := (p.st.hole (k4 a o e).2).2.2
  refine ⟨?_, this⟩
  show merge σ₁ σ' a = some o
  unfold merge; rw [this]; exact e

theorem call_def {f : Str} {np : Pos} {e : Expr} {rest : List Expr} {k : Nat} (I : In M c env k) (hk : env.kindOf f = some .globalImplicit) (hF : Fn M f)
    (h : Evs c E (spliced (backTo pos (starEach (e :: rest) env))) m σ fun vs m₁ σ₁ => ∃ n Pre R, Spec M n f vs Pre R ∧ n ≤ k ∧ Pre (Sees c σ₁) ∧ ∀ v σ₂, (∀ a o, σ₁ a = some o → σ₂ a = some o) → R v (own σ₂) → Q v m₁ σ₂)
    (he' : eval (.Call (.Name f np) (e :: rest) [] pos) env = (do callWith pos (← eval (.Name f np) env) [] (backTo pos (starEach (e :: rest) env)) (backToKw pos (keywordEach [] env))) := by rfl)
    (he : starEach (e :: rest) env = (false, eval e env) :: starEach rest env := by rfl) (hd : (f == ("__debug__" : Str)) = false := by decide) : Ev c E (eval (.Call (.Name f np) (e :: rest) [] pos) env) m σ Q :=
  call_defN I hk hF (W.mono h fun vs m₁ σ₁ ⟨n, Pre, R, S, hn, hpre, q⟩ => ⟨n, Pre, R, S, hn, hpre, fun v σ₂ hext hR => q v σ₂ hext (S.monoR v _ _ (fun a o h => h.1) hR)⟩) he' he hd
end
end Mine

namespace Mine
open PySem PySem.Calls PyProof.Rows PySem.SeqAt

theorem ofString_ne {a b : String} (h : a ≠ b) : Str.ofString a ≠ Str.ofString b := fun e => h (by
  rw [Str.ofString_eq_toList, Str.ofString_eq_toList] at e
  have e1 : (a.toList.map Char.toNat).toArray = (b.toList.map Char.toNat).toArray := congrArg Str.cps e
  have e2 : a.toList.map Char.toNat = b.toList.map Char.toNat := by simpa using e1
  have inj : ∀ (l l' : List Char), l.map Char.toNat = l'.map Char.toNat → l = l' := by
    intro l
    induction l with
    | nil => intro l' h; cases l' with | nil => rfl | cons _ _ => simp at h
    | cons x l ih =>
      intro l' h
      cases l' with
      | nil => simp at h
      | cons y l' =>
        simp only [List.map_cons, List.cons.injEq] at h
        have : x = y := Char.toNat_inj.mp h.1
        rw [this, ih l' h.2]
  have := inj _ _ e2
  exact String.ext this)
theorem upd_new {κ β : Type} [DecidableEq κ] {f : κ → Option β} {k k' : κ} {v u : β} (h : f k = none) (e : f k' = some u) : upd f k v k' = some u := upd_ne (fun q => by rw [q, h] at e; cases e) e
theorem ne_of_new {κ β : Type} {f : κ → Option β} {k k' : κ} {u : β} (h : f k = none) (e : f k' = some u) : k' ≠ k := fun q => by rw [q, h] at e; cases e
def V.addr : V → Addr
  | .ref a => a
  | _ => 0

abbrev pw : Program := PySem.Challenge.pw_k18_0055
abbrev G := List (Str × List Str)

def vars0 : List Str → List V → Vars
  | x :: xs, v :: vs => upd (vars0 xs vs) x v
  | _, _ => fun _ => none
theorem vars0_le : ∀ (names : List Str) (vals : List Value) (args : List V), names.Nodup → vals.map er = args → ∀ x v, vars0 names args x = some v → ∃ val, (names.zip vals).reverse.lookup x = some val ∧ er val = v := by
  intro names
  induction names with
  | nil => intro vals args _ _ x v h; cases h
  | cons y names ih =>
    intro vals args hnd hv x v h
    cases vals with
    | nil => subst hv; cases h
    | cons u vals =>
      subst hv
      simp only [List.map_cons, vars0, upd] at h
      rw [List.zip_cons_cons, List.reverse_cons, List.lookup_append]
      split at h
      · rename_i hx
        subst hx
        cases h
        have hno : (names.zip vals).reverse.lookup x = none := by
          rw [List.lookup_eq_none_iff]
          intro p hp
          have : p.1 ∈ names := (List.of_mem_zip (List.mem_reverse.mp hp)).1
          have hn := (List.nodup_cons.mp hnd).1
          rw [bne_iff_ne]
          exact fun e => hn (e ▸ this)
        refine ⟨u, by rw [hno]; simp, rfl⟩
      · obtain ⟨val, h1, h2⟩ := ih vals _ (List.nodup_cons.mp hnd).2 rfl x v h
        exact ⟨val, by rw [h1]; rfl, h2⟩

/-- the record of a def in the text -/
theorem Mod.fnAt {M : Mod} (hp : recsOf M.q = recsOf pw) {h : Heap} (T : M.Top h) {k : Nat} {d : DefRec} (e : (recsOf pw)[k]? = some d) :
    ∃ a o pm code doc, M.mg d.name = some (.ref a) ∧ h.get? a = some o ∧ o.data = .func (docDef d.name d.params d.body d.scope pm code doc) ∧ h.CodeRec code d.name :=
  PyProof.Rows.Top.fn T d (hp ▸ List.mem_of_getElem? e)
theorem Mod.fn {M : Mod} (hp : recsOf M.q = recsOf pw) (k : Nat) {d : DefRec} (e : (recsOf pw)[k]? = some d) : Fn M d.name := fun h T => let ⟨f, o, _, _, _, h1, h2, h3, _⟩ := M.fnAt hp T e; ⟨f, o, _, h1, h2, h3⟩
theorem same_addr {mg : Str → Option Value} {x : Str} {a b : Addr} (h1 : mg x = some (.ref a)) (h2 : mg x = some (.ref b)) : a = b := by rw [h1] at h2; cases h2; rfl

def baseOf (c : Cx) : Vw := fun a o => o.At c.prog c.w c.g a

theorem Sees.base {c : Cx} {σ : Hp} {a : Addr} {o : O} (h : baseOf c a o) : Sees c σ a o := .inr h
theorem Sees.own {c : Cx} {σ : Hp} {a : Addr} {o : O} (h : σ a = some o) : Sees c σ a o := .inl h
theorem mkSpec {M : Mod} (hp : recsOf M.q = recsOf pw) (k : Nat) {d : DefRec} {n : Nat} {args : List V} {Pre : Vw → Prop} {R : V → Vw → Prop} (names : List Str) (e : (recsOf pw)[k]? = some d)
    (hnd : names.Nodup) (hloc : (names.all fun x => decide (d.scope.names.lookup x = some .local)) = true) (hcell : (d.scope.names.all fun x => x.2 != .cell) = true)
    (hbind : ∀ vals pm code doc, vals.map er = args → bindArgs (docDef d.name d.params d.body d.scope pm code doc) ⟨vals, []⟩ = pure (names.zip vals))
    (hco : d.scope.isCoroutine = false) (hgen : d.scope.isGenerator = false) (hk : d.scope.kind = .function) (mono : Mono Pre) (monoR : ∀ v, Mono (R v))
    (body : ∀ c L fa code, In M c (envOf d.name d.scope L fa code) n → Pre (baseOf c) → ∀ Q, Leads (fun f m σ => ∃ v, f = .ret v ∧ R v (own σ)) Q → X c NoE (execs d.body (envOf d.name d.scope L fa code)) (vars0 names args) (fun _ => none) Q) :
    Spec M (n + 1) d.name args Pre R where
  mono := mono
  monoR := monoR
  run := fun A s fa vals hroom T hmg hv hpre hg => by
    obtain ⟨f, o, pm, code, doc, h1, h2, h3, h4⟩ := M.fnAt hp T e
    obtain rfl := same_addr h1 hmg
    have hmem : ∀ x ∈ names.zip vals, x.1 ∈ names := fun x hx => (List.of_mem_zip hx).1
    refine call_plain hroom.depth h2 h3 T.nolimit h4 (hbind vals pm code doc hv) (fun x hx => of_decide_eq_true (List.all_eq_true.mp hloc x.1 (hmem x hx))) (fun h₁ F => ?_) hco hgen hk (fun x hx => by simpa using List.all_eq_true.mp hcell x hx)
    have I : In M { prog := M.p, w := M.w, A := A.deeper (envOf d.name d.scope s.heap.objs.size f code), g := s.heap, L := s.heap.objs.size, os := s.os } (envOf d.name d.scope s.heap.objs.size f code) n :=
      ⟨⟨rfl, hk, rfl, rfl⟩, rfl, rfl, T, hroom.deeper _⟩
    refine wpAny_mono (body _ _ _ _ I hpre _ Leads.refl { s with heap := h₁, toks := s.toks + (names.zip vals).length } ⟨⟨_, F.ns, fun y v e => vars0_le names vals args hnd hv y v e⟩, F.keep, fun _ _ e => (nomatch e), Nat.le_refl _, hg, rfl⟩) (fun fl s' ⟨m', σ', p, v, hv', hr⟩ => ?_) fun _ _ e => e.elim
    cases fl with
    | ret rv =>
      have hv'' : er rv = v := by simpa [erF] using hv'
      exact ⟨rv, σ', rfl, p.st.keep, p.st.gens, p.st.os, fun a o e => ⟨(p.st.own a o e).1, (p.st.own a o e).2.2⟩, hv'' ▸ hr⟩
    | next => cases hv'
    | brk => cases hv'
    | cont => cases hv'

section
variable {c : Cx} {E : Value → Shared → Prop} {m : Vars} {σ : Hp} {env : Env} {x : Str} {pos : Pos} {u : V} {val : Value} {QU : Unit → Vars → Hp → Prop}
theorem asg_local (ho : EnvOk c env) (hk : env.kindOf x = some .local) (hv : er val = u) (h : QU () (upd m x u) σ) : W c E (assign (.Name x pos) env val) m σ QU := fun s S => wpAny_assign_Name (store_local ho hk (hv ▸ h) s S)
end
theorem two_val {vals : List Value} {u v : V} (h : vals.map er = [u, v]) : ∃ a b, vals = [a, b] := by
  cases vals with
  | nil => cases h
  | cons a t => obtain ⟨b, rfl, _⟩ := one_val (List.cons.inj h).2; exact ⟨a, b, rfl⟩
theorem three_val {vals : List Value} {u v w : V} (h : vals.map er = [u, v, w]) : ∃ a b d, vals = [a, b, d] := by
  cases vals with
  | nil => cases h
  | cons a t => obtain ⟨b, d, rfl⟩ := two_val (List.cons.inj h).2; exact ⟨a, b, d, rfl⟩
end Mine

namespace Mine
open PySem PySem.Calls PyProof.Rows PySem.SeqAt

/-! a set of strs, rising and without repeats, is one list -/
def leS (a b : Str) : Prop := a.cps.toList ≤ b.cps.toList
theorem leS_of_rising : ∀ (r : List Str) (p : Str), risingS p r = true → (p :: r).Pairwise leS
  | [], p, _ => List.pairwise_singleton _ _
  | x :: r, p, h => by
    have h' : (!PySem.Spec.ltCps x.cps.toList p.cps.toList && risingS x r) = true := h
    rw [Bool.and_eq_true, ltCps_eq] at h'
    have h1 : leS p x := by
      have := h'.1
      simp only [Bool.not_eq_true', decide_eq_false_iff_not] at this
      exact List.not_lt.mp this
    have ih := leS_of_rising r x h'.2
    rw [List.pairwise_cons]
    refine ⟨fun y hy => ?_, ih⟩
    rcases List.mem_cons.mp hy with rfl | hy
    · exact h1
    · exact List.le_trans h1 ((List.pairwise_cons.mp ih).1 y hy)
theorem leS_of_sorted : ∀ (l : List Str), sortedS l = true → l.Pairwise leS
  | [], _ => .nil
  | x :: r, h => leS_of_rising r x h
theorem leS_antisymm {a b : Str} (h1 : leS a b) (h2 : leS b a) : a = b := by
  have e : a.cps.toList = b.cps.toList := List.le_antisymm h1 h2
  cases a; cases b
  congr
  exact Array.toList_inj.mp e

def Canon (l : List Str) : Prop := l.Nodup ∧ sortedS l = true
theorem Canon.ext {l k : List Str} (hl : Canon l) (hk : Canon k) (h : ∀ x, x ∈ l ↔ x ∈ k) : l = k :=
  List.Perm.eq_of_pairwise (le := leS) (fun _ _ _ _ => leS_antisymm) (leS_of_sorted _ hl.2) (leS_of_sorted _ hk.2) ((List.perm_ext_iff_of_nodup hl.1 hk.1).mpr h)
theorem Canon.nil : Canon [] := ⟨.nil, rfl⟩
theorem Canon.grows {l k : List Str} (hl : Canon l) (hk : Canon k) (h : ∀ x, x ∈ l → x ∈ k) (hne : k ≠ l) : l.length < k.length := by
  have h1 := List.Nodup.length_le_of_subset hl.1 h
  rcases Nat.lt_or_ge l.length k.length with q | q
  · exact q
  · exfalso
    refine hne (Canon.ext hk hl fun x => ⟨fun hx => ?_, h x⟩)
    -- a k's element missing in l would make k longer
    exact Classical.byContradiction fun hn => by
      have h2 : (x :: l).Nodup := List.nodup_cons.mpr ⟨hn, hl.1⟩
      have h3 : (x :: l) ⊆ k := fun y hy => (List.mem_cons.mp hy).elim (fun e => e ▸ hx) (h y)
      have := List.Nodup.length_le_of_subset h2 h3
      simp at this
      omega

/-! the built-in names are not bound by the module -/
def blts : List Str := [Str.ofString "sorted", Str.ofString "len", Str.ofString "all", Str.ofString "any", Str.ofString "range", Str.ofString "type", Str.ofString "bool", Str.ofString "list", Str.ofString "int"]
structure Ok (M : Mod) : Prop where
  p : recsOf M.q = recsOf pw
  pe : specOf M.q (Str.ofString "ParseError") = some ("Exception.__new__", [.type "Exception", .type "BaseException", .type "object"])
  blt : ∀ x ∈ blts, M.mg x = none

section
variable {M : Mod} {c : Cx} {E : Value → Shared → Prop} {m : Vars} {σ : Hp} {env : Env} {x : Str} {pos : Pos} {v : V} {Q : V → Vars → Hp → Prop} {n : Nat}
theorem name_blt (hM : Ok M) (I : In M c env n) (hk : env.kindOf x = some .globalImplicit) (hx : x ∈ blts) {val : Value} (hv : bootBuiltins x = some val) (hn : x ≠ "__name__") (h : Q (er val) m σ) (hd : (x == ("__debug__" : Str)) = false := by decide) :
    Ev c E (eval (.Name x pos) env) m σ Q := name_builtin I.env I.top hk hv (hM.blt x hx) hn h hd

theorem call_sorted {e : Expr} {np : Pos} (hM : Ok M) (I : In M c env n) (hk : env.kindOf (Str.ofString "sorted") = some .globalImplicit)
    (h : Evs c E (spliced (backTo pos (starEach [e] env))) m σ fun vs m₁ σ₁ => ∃ l ss, vs = [.ref l] ∧ Sees c σ₁ l (.list (ss.map V.str)) ∧ ss.length < 64 ∧ ∀ r ss', σ₁ r = none → ss'.Perm ss → sortedS ss' = true → Q (.ref r) m₁ (upd σ₁ r (.list (ss'.map V.str))))
    (he' : eval (.Call (.Name (Str.ofString "sorted") np) [e] [] pos) env = (do callWith pos (← eval (.Name (Str.ofString "sorted") np) env) [] (backTo pos (starEach [e] env)) (backToKw pos (keywordEach [] env))) := by rfl)
    (he : starEach [e] env = (false, eval e env) :: starEach [] env := by rfl) : Ev c E (eval (.Call (.Name (Str.ofString "sorted") np) [e] [] pos) env) m σ Q :=
  call_blt (name_blt hM I hk (by decide) boot_sorted (by decide) ⟨"sorted", rfl, W.mono h fun vs m₁ σ₁ ⟨l, ss, h1, h2, h3, h4⟩ vals hv => f_sorted (hv.trans h1) h2 h3 h4⟩) he' he rfl
theorem call_len {e : Expr} {np : Pos} (hM : Ok M) (I : In M c env n) (hk : env.kindOf (Str.ofString "len") = some .globalImplicit)
    (h : Evs c E (spliced (backTo pos (starEach [e] env))) m σ fun vs m₁ σ₁ => ∃ l xs, vs = [.ref l] ∧ (Sees c σ₁ l (.list xs) ∨ Sees c σ₁ l (.tuple xs)) ∧ xs.length ≤ 1000 ∧ Q (.int (xs.length : Nat)) m₁ σ₁)
    (he' : eval (.Call (.Name (Str.ofString "len") np) [e] [] pos) env = (do callWith pos (← eval (.Name (Str.ofString "len") np) env) [] (backTo pos (starEach [e] env)) (backToKw pos (keywordEach [] env))) := by rfl)
    (he : starEach [e] env = (false, eval e env) :: starEach [] env := by rfl) : Ev c E (eval (.Call (.Name (Str.ofString "len") np) [e] [] pos) env) m σ Q :=
  call_blt (name_blt hM I hk (by decide) (val := .builtin "len") (by decide +kernel) (by decide) ⟨"len", rfl, W.mono h fun vs m₁ σ₁ ⟨l, ss, h1, h2, h3, h4⟩ vals hv => h2.elim (fun h2 => f_len (hv.trans h1) h2 h3 h4) fun h2 => f_len_tuple (hv.trans h1) h2 h3 h4⟩) he' he rfl
theorem call_all {e : Expr} {np : Pos} (hM : Ok M) (I : In M c env n) (hk : env.kindOf (Str.ofString "all") = some .globalImplicit)
    (h : Evs c E (spliced (backTo pos (starEach [e] env))) m σ fun vs m₁ σ₁ => ∃ l, ∃ bs : List Bool, vs = [.ref l] ∧ Sees c σ₁ l (.list (bs.map V.bool)) ∧ Q (.bool (bs.all id)) m₁ σ₁)
    (he' : eval (.Call (.Name (Str.ofString "all") np) [e] [] pos) env = (do callWith pos (← eval (.Name (Str.ofString "all") np) env) [] (backTo pos (starEach [e] env)) (backToKw pos (keywordEach [] env))) := by rfl)
    (he : starEach [e] env = (false, eval e env) :: starEach [] env := by rfl) : Ev c E (eval (.Call (.Name (Str.ofString "all") np) [e] [] pos) env) m σ Q :=
  call_blt (name_blt hM I hk (by decide) (val := .builtin "all") (by decide +kernel) (by decide) ⟨"all", rfl, W.mono h fun vs m₁ σ₁ ⟨l, bs, h1, h2, h3⟩ vals hv => f_all I.room.1 (hv.trans h1) h2 h3⟩) he' he rfl
theorem call_range {e : Expr} {np : Pos} (hM : Ok M) (I : In M c env n) (hk : env.kindOf (Str.ofString "range") = some .globalImplicit)
    (h : Evs c E (spliced (backTo pos (starEach [e] env))) m σ fun vs m₁ σ₁ => ∃ k, vs = [.int k] ∧ ∀ r, σ₁ r = none → Q (.ref r) m₁ (upd σ₁ r (.range k)))
    (he' : eval (.Call (.Name (Str.ofString "range") np) [e] [] pos) env = (do callWith pos (← eval (.Name (Str.ofString "range") np) env) [] (backTo pos (starEach [e] env)) (backToKw pos (keywordEach [] env))) := by rfl)
    (he : starEach [e] env = (false, eval e env) :: starEach [] env := by rfl) : Ev c E (eval (.Call (.Name (Str.ofString "range") np) [e] [] pos) env) m σ Q :=
  call_typ (name_blt hM I hk (by decide) boot_range (by decide) ⟨"range", rfl, W.mono h fun vs m₁ σ₁ ⟨k, h1, h2⟩ vals hv => f_range (hv.trans h1) h2⟩) he' he rfl
/-- a new dict -/
theorem new_dict (hM : Ok M) (I : In M c env n) (h : ∀ a, σ a = none → Q (.ref a) m (upd σ a (.dict [] fun _ => none))) : Ev c E (eval (.Dict [] [] pos) env) m σ Q :=
  dict_disp (fun s S => by
    have h1 := S.lt
    have h2 := S.above
    have h3 : mainGlobals < c.g.objs.size := I.top.g.lt
    have h4 : (1 : Nat) < mainGlobals := by decide
    have : s.heap.objs.size ≠ sysModules := by
      show s.heap.objs.size ≠ (1 : Nat)
      exact Nat.ne_of_gt (Nat.lt_trans (Nat.lt_of_lt_of_le (Nat.lt_trans h4 h3) h2) h1)
    simpa using this) h
end
end Mine

namespace Mine
open PySem PySem.Calls PyProof.Rows PySem.SeqAt

theorem append_call {prog : Program} {w : World} {A : Around} {E : Value → Shared → Prop} {s : Shared} {l : Addr} {items : Array Value} {n : Nat} {x : Value} {Q : Value → Shared → Prop} (hl : IsL s.heap l items n) (hsz : items.size ≤ sizeLine)
    (h : Q .none { s with heap := s.heap.update l (Obj.mapSeq fun xs => xs.push x) }) : wpAny (model prog w) A (call (.builtin "list.append") [.ref l, x]) Q E s :=
  call_meets F.slot_list_append ⟨_, hl, rfl⟩ F.entry_list_append (F.args_list_append_2 _ _) (list_append l items n x hsz) ⟨hl, h⟩

def Cx.at (c : Cx) (C : Addr) : Cx := { c with L := C }

section
variable {c : Cx} {E : Value → Shared → Prop} {m : Vars} {σ : Hp} {env : Env} {x : Str} {pos : Pos} {v : V} {Q : V → Vars → Hp → Prop}

theorem comp_env {scope : Scope} {cl : List (Str × Addr)} {C : Addr} (ho : EnvOk c env) (hk : scope.kind = .function) : EnvOk (c.at C) (compEnvC scope cl C env) := ⟨rfl, hk, ho.glob, ho.blt⟩

theorem pyIter_self {src : Src} {s : Shared} {I : Addr} {i : Nat} {R : Value → Shared → Prop} (hat : src.At c.prog c.w s.heap I i) (h : R (.ref I) s) : wpAny c.M c.A (pyIter (.ref I)) R E s := by
  cases src with
  | list a xs => exact wpAny_pyIter_listiter hat.1 h
  | range n => exact wpAny_pyIter_rangeiter hat h

theorem Src.At.keeps {src : Src} {p : Program} {w : World} {h h' : Heap} {I : Addr} {i : Nat} (hat : src.At p w h I i) (k : ∀ b o, h.get? b = some o → h'.get? b = some o) : src.At p w h' I i := by
  cases src with
  | list a xs =>
    obtain ⟨⟨o, h1, h2⟩, h3⟩ := hat
    exact ⟨⟨o, k _ _ h1, h2⟩, h3.keeps fun x hx => k a x hx⟩
  | range n => exact k _ _ hat

theorem listcomp {elt iter : Expr} {px : Pos} {scope : Scope} {cl : List (Str × Addr)} (hh : c.A.handled = none) (ho : EnvOk c env) (src : V → Src) (Inv : V → Nat → List V → Hp → Prop)
    (h : Ev c E (eval iter env) m σ fun v m₁ σ₁ => (src v).Is c σ₁ v ∧ Inv v 0 [] σ₁ ∧ (src v).items.length ≤ 1000 ∧ ∀ ys σ₂ D, Inv v (src v).items.length ys σ₂ → σ₂ D = none → Q (.ref D) m₁ (upd σ₂ D (.list ys)))
    (ok : ∀ v i ys σ, Inv v i ys σ → (src v).Ok c σ)
    (turn : ∀ v i ys σ u C, Inv v i ys σ → (src v).items[i]? = some u → EnvOk (c.at C) (compEnvC scope cl C env) → Ev (c.at C) NoE (eval elt (compEnvC scope cl C env)) (upd (fun _ => none) x u) σ fun y _ σ' => Inv v (i + 1) (ys ++ [y]) σ')
    (hclos : closureFor scope env = pure cl) (hcell : (scope.names.all fun y => y.2 != .cell) = true) (hkind : scope.kind = .function)
    (hnames : (scope.names.all fun y => y.2 != .local || scope.names.lookup y.1 == some .local) = true) (hx : scope.names.lookup x = some .local)
    (hs : ∀ x, foldedSetIterable iter env x = pure x := by intro _; rfl) : Ev c E (eval (.ListComp elt [⟨.Name x px, iter, [], 0⟩] scope pos) env) m σ Q := fun s S => by
  rw [eval_ListComp]
  have hnames' : ∀ y ∈ scope.names, y.2 = .local → scope.names.lookup y.1 = some .local := fun y hy e => by
    have := List.all_eq_true.mp hnames y hy
    simpa [e] using this
  have hcell' : ∀ y ∈ scope.names, y.2 ≠ .cell := fun y hy => by simpa using List.all_eq_true.mp hcell y hy
  refine wpAny_comprehension_free (use := none) rfl hs hclos hkind hnames' (W.step h S fun val s₁ m₁ σ₁ p q => pyIter_src p.st q.1 fun I h' hI hat hk => ?_)
  obtain ⟨hIs, hI0, hlen, hQ⟩ := q
  generalize hsrc : src (er val) = sr at hat
  have holeI := p.st.hole hI
  have p₁ := p.st.keeps (tk := s₁.toks) hk
  -- the growing list
  refine wpAny_newObj_type (wpAny_newFunctionEnv hcell' (by intro y hy; simp at hy) (fun h₁ hns₁ hsb₁ => ?_) hkind)
  dsimp only at hns₁ hsb₁ ⊢
  generalize hH2 : h'.push { cls := .type "list", dict := none, data := .seq ([] : List Value).toArray } = H2 at hns₁ hsb₁ ⊢
  generalize hDe : h'.objs.size = D
  generalize hCe : H2.objs.size = C at hns₁ hsb₁
  have hCs : C = D + 1 := by rw [← hCe, ← hH2, Heap.size_push, hDe]
  have fresh : ∀ a, D ≤ a → h'.get? a = none := fun a ha => by
    cases e : h'.get? a with
    | none => rfl
    | some o => exact absurd (Heap.lt_size e) (Nat.not_lt.mpr (by rw [hDe]; exact ha))
  have freshS : ∀ a, D ≤ a → s₁.heap.get? a = none := fun a ha => by
    cases e : s₁.heap.get? a with
    | none => rfl
    | some o => have := fresh a ha; rw [hk a o e] at this; cases this
  have hD := freshS D (Nat.le_refl _)
  have hC := freshS C (by rw [hCs]; exact Nat.le_succ _)
  have holeD := p.st.hole hD
  have holeC := p.st.hole hC
  have hDC : D ≠ C := by rw [hCs]; exact Nat.ne_of_lt (Nat.lt_succ_self _)
  have hIlt : I ≠ D ∧ I ≠ C := by
    have : ∃ o, h'.get? I = some o := by
      cases sr with
      | list a xs => obtain ⟨⟨o, h1, _⟩, _⟩ := hat; exact ⟨o, h1⟩
      | range n => exact ⟨_, hat⟩
    obtain ⟨o, ho'⟩ := this
    have hlt : I < D := by rw [← hDe]; exact Heap.lt_size ho'
    exact ⟨Nat.ne_of_lt hlt, Nat.ne_of_lt (by rw [hCs]; exact Nat.lt_succ_of_lt hlt)⟩
  have old : ∀ b o, h'.get? b = some o → h₁.get? b = some o := fun b o e => by
    have hlt : b < D := by rw [← hDe]; exact Heap.lt_size e
    exact hsb₁.extBut b o (Nat.ne_of_lt (by rw [hCs]; exact Nat.lt_succ_of_lt hlt)) (Heap.get?_push_of_some _ (hH2 ▸ Heap.get?_push_of_some _ e))
  have hacc : IsL h₁ D #[] 0 := hsb₁.extBut D _ hDC (Heap.get?_push_of_some _ (hH2 ▸ hDe ▸ Heap.get?_push_size _ rfl))
  have hsrc' : src (er val) = sr := hsrc
  -- the loop
  have loop : ∀ s₃ : Shared, s₃ = { s₁ with heap := h₁, toks := s₁.toks + ([] : List (Str × Value)).length } →
      codeAny c.M c.A (.compLoop (.ListComp elt [⟨.Name x px, iter, [], 0⟩] scope pos) 0 (.ref I) (.ref D) (compEnvC scope cl C env)) (compPost c.M c.A E none (fun a s' => ∃ m' σ', Pst c σ s m' σ' s' ∧ Q (er a) m' σ') (.ref D) C) s₃ := by
    rintro s₃ rfl
    refine codeAny_compLoop_list (fun k s' => ∃ i ys σ', Pst c σ₁ s₁ m₁ σ' s' ∧ Inv (er val) i ys σ' ∧ sr.At c.prog c.w s'.heap I i ∧ (∃ items n, IsL s'.heap D items n ∧ items.toList.map er = ys) ∧ (∃ mC, s'.heap.Ns C mC) ∧
        σ' I = none ∧ σ' D = none ∧ σ' C = none ∧ ys.length = i ∧ i ≤ sr.items.length ∧ k = sr.items.length + 1 - i) ?_ (sr.items.length + 1)
      ⟨0, [], σ₁, p.st.keeps (tk := _) (fun b o e => old b o (hk b o e)), hI0, hat.keeps old, ⟨#[], 0, hacc, rfl⟩, ⟨_, hns₁⟩, holeI.2.2, holeD.2.2, holeC.2.2, rfl, Nat.zero_le _, rfl⟩
    rintro k s' ⟨i, ys, σ', P, hInv, hat', ⟨items, n, hit, hys⟩, ⟨mC, hnC⟩, hσI, hσD, hσC, hyl, hi, rfl⟩
    cases hu : sr.items[i]? with
    | none =>
      have hlen' : i = sr.items.length := Nat.le_antisymm hi (by simpa using hu)
      refine pyNext_end hh hat' hu fun h'' hx' => ?_
      refine ⟨mC, hnC.extBut hx' (Ne.symm hIlt.2), fun h3 hs3 => ?_⟩
      have P₁ := P.other (tk := s'.toks) hI holeI.1 hσI hx' holeI.2.1
      have P₂ := P₁.other (tk := s'.toks) hC holeC.1 hσC hs3.extBut holeC.2.1
      have hD3 : IsL h3 D items n := hs3.extBut D _ hDC (hx' D _ (Ne.symm hIlt.1) hit)
      obtain ⟨_, hL, hg⟩ : (O.list ys).At c.prog c.w h3 D ∧ D ≠ c.L ∧ c.g.get? D = none := ⟨⟨items, n, hD3, hys⟩, holeD.1, holeD.2.1⟩
      have P₃ : Pst c σ₁ s₁ m₁ (upd σ' D (.list ys)) { s' with heap := h3 } := by
        refine ⟨⟨P₂.st.ns, P₂.st.keep, fun a o e => ?_, P₂.st.above, P₂.st.gens, P₂.st.os⟩, P₂.frame, fun b o e h2 => ?_⟩
        · unfold upd at e
          split at e
          · rename_i ha; cases e; rw [ha]; exact ⟨⟨items, n, hD3, hys⟩, hL, hg⟩
          · exact P₂.st.own a o e
        · unfold upd at e
          split at e
          · rename_i hb; rw [hb]; exact hD
          · exact P₂.dom b o e h2
      exact ⟨m₁, _, p.trans P₃, hQ ys σ' D (by rw [hsrc', ← hlen']; exact hInv) hσD⟩
    | some u =>
      have hlt : i < sr.items.length := (List.getElem?_eq_some_iff.mp hu).1
      refine pyNext_item hat' hu fun uv h'' tk he hsb hat'' => ?_
      have P₁ := P.other (tk := tk) hI holeI.1 hσI hsb.extBut holeI.2.1
      have hnC₁ := hnC.extBut hsb.extBut (Ne.symm hIlt.2)
      have hit₁ : IsL h'' D items n := hsb.extBut D _ (Ne.symm hIlt.1) hit
      -- the inner frame's own state
      refine wpAny_assign_Name (wpAny_storeName_local (lookup_relabel_local hx) (show (⟨h'', _, _, _, _⟩ : Shared).heap.Ns C mC from hnC₁) (fun h₂ hn₂ hs₂ => ?_) (by simp [compEnvC, relabel, hkind]))
      have P₂ := P₁.other (tk := tk + 1) hC holeC.1 hσC (show Heap.SameBut C h'' h₂ from hs₂).extBut holeC.2.1
      have hit₂ : IsL h₂ D items n := (show Heap.SameBut C h'' h₂ from hs₂).extBut D _ hDC hit₁
      have S' : St (c.at C) (upd (fun _ => none) x u) σ' { s' with heap := h₂, toks := tk + 1 } := by
        refine ⟨⟨_, hn₂, fun y z e => ?_⟩, P₂.st.keep, fun a o e => ?_, ?_, P₂.st.gens, P₂.st.os⟩
        · unfold upd at e
          split at e
          · rename_i hy; cases e; exact ⟨uv, by simp [hy], he⟩
          · cases e
        · obtain ⟨h1, h2, h3⟩ := P₂.st.own a o e
          exact ⟨h1, (fun q => by rw [q, show σ' (c.at C).L = σ' C from rfl, hσC] at e; cases e), h3⟩
        · exact Nat.le_trans P.st.above (Nat.le_of_lt (by
            have h1 := p.st.lt
            have h2 : c.L < D := by
              obtain ⟨_, ⟨o, _, _, h1, _⟩, _⟩ := p.st.ns
              rw [← hDe]; exact Heap.lt_size (hk _ _ h1)
            show c.L < C
            rw [hCs]; exact Nat.lt_succ_of_lt h2))
      refine wpAny_mono (turn (er val) i ys σ' u C hInv (by rw [hsrc']; exact hu) (comp_env ho hkind) _ S') (fun y s₄ ⟨m₄, σ₄, p₄, q₄⟩ => ?_) fun _ _ e => e.elim
      have hL4 : c.L ≠ C := Ne.symm holeC.1
      have hσL : σ' c.L = none := by
        cases e : σ' c.L with
        | none => rfl
        | some o => exact absurd rfl (P.st.own _ o e).2.1
      have notNew : ∀ b o, h₂.get? b = some o → σ' b = none → σ₄ b = none := fun b o e hn => by
        cases e4 : σ₄ b with
        | none => rfl
        | some o4 => have := p₄.dom b o4 e4 hn; rw [show h₂.get? b = some o from e] at this; cases this
      have Iobj : ∃ o, h₂.get? I = some o := by
        have : ∃ o, h''.get? I = some o := by
          revert hat''
          cases sr with
          | list a xs => rintro ⟨o, h1, _⟩; exact ⟨o, h1⟩
          | range n => intro h1; exact ⟨_, h1⟩
        obtain ⟨o, e⟩ := this
        exact ⟨o, (show Heap.SameBut C h'' h₂ from hs₂).extBut I o hIlt.2 e⟩
      obtain ⟨oI, hIo⟩ := Iobj
      have hI4 : s₄.heap.get? I = some oI := p₄.frame I oI hIlt.2 hσI hIo
      have hD4 : IsL s₄.heap D items n := p₄.frame D _ hDC hσD hit₂
      have hσI4 : σ₄ I = none := notNew I oI hIo hσI
      have hσD4 : σ₄ D = none := notNew D _ hit₂ hσD
      have hσC4 : σ₄ C = none := by
        cases e4 : σ₄ C with
        | none => rfl
        | some o4 => exact absurd rfl (p₄.st.own C o4 e4).2.1
      have P₄ : Pst c σ₁ s₁ m₁ σ₄ s₄ := by
        refine ⟨⟨?_, p₄.st.keep, fun a o e => ?_, P₂.st.above, p₄.st.gens, p₄.st.os⟩, fun b o hb hn e => ?_, fun b o e hn => ?_⟩
        · obtain ⟨mL, ⟨oL, es, ep, hL1, hLr⟩, hLm⟩ := P₂.st.ns
          exact ⟨mL, ⟨oL, es, ep, p₄.frame c.L oL hL4 hσL hL1, hLr⟩, hLm⟩
        · obtain ⟨h1, h2, h3⟩ := p₄.st.own a o e
          refine ⟨h1, fun q => ?_, h3⟩
          obtain ⟨mL, ⟨oL, es, ep, hL1, hLr⟩, hLm⟩ := P₂.st.ns
          have := notNew c.L oL hL1 hσL
          rw [q, this] at e; cases e
        · have hbC : b ≠ C := fun q => by rw [q, hC] at e; cases e
          refine p₄.frame b o hbC ?_ (P₂.frame b o hb hn e)
          cases e2 : σ' b with
          | none => rfl
          | some o2 => have := P.dom b o2 e2 hn; rw [e] at this; cases this
        · cases e2 : σ' b with
          | some o2 => exact P.dom b o2 e2 hn
          | none =>
            have h1 := p₄.dom b o e e2
            cases e3 : s₁.heap.get? b with
            | none => rfl
            | some o3 =>
              have hbL : b ≠ c.L := fun q => by
                obtain ⟨mL, ⟨oL, es, ep, hL1, hLr⟩, hLm⟩ := P₂.st.ns
                have := notNew c.L oL hL1 hσL
                rw [q, this] at e; cases e
              have := P₂.frame b o3 hbL hn e3
              rw [h1] at this; cases this
      -- the item is appended
      have hsz : items.size ≤ 1000 := by
        have e1 : items.size = ys.length := by simpa using congrArg List.length hys
        have : sr.items.length ≤ 1000 := by rw [← hsrc']; exact hlen
        omega
      refine append_call hD4 (by rw [sizeLine_eq]; omega) ?_
      have hsb5 : Heap.SameBut D s₄.heap (s₄.heap.update D (Obj.mapSeq fun xs => xs.push y)) := Heap.SameBut.update ..
      have P₅ := P₄.other (tk := s₄.toks) hD holeD.1 hσD4 hsb5.extBut holeD.2.1
      refine ⟨sr.items.length + 1 - (i + 1), by omega, i + 1, ys ++ [er y], σ₄, P₅, q₄, ?_, ⟨_, _, hD4.update _, by simp [hys]⟩, ?_, hσI4, hσD4, hσC4, by simp [hyl], hlt, rfl⟩
      · have hok := ok _ _ _ _ q₄
        rw [hsrc'] at hok
        have hI5 : (s₄.heap.update D (Obj.mapSeq fun xs => xs.push y)).get? I = some oI := hsb5.extBut I oI hIlt.1 hI4
        have hI2 : h''.get? I = some oI := by
          have : h₂.get? I = h''.get? I := (show Heap.SameBut C h'' h₂ from hs₂).2 I hIlt.2
          rw [← this]; exact hIo
        revert hat'' hok
        cases sr with
        | list a xs =>
          rintro ⟨o, h1, h2⟩ hok
          rw [hI2] at h1; cases h1
          exact ⟨⟨oI, hI5, h2⟩, hok.at P₅.st⟩
        | range n =>
          intro h1 _
          exact hI5.trans (hI2.symm.trans h1)
      · obtain ⟨mC4, ⟨oC, es, ep, h1, h2⟩, _⟩ := p₄.st.ns
        exact ⟨mC4, oC, es, ep, hsb5.extBut C oC (Ne.symm hDC) h1, h2⟩
  exact codeAny_compStart_list (loop _ rfl) (pyIter_self (hat.keeps old) (loop _ rfl))
end
end Mine

namespace Mine
open PySem PySem.Calls PyProof.Rows PySem.SeqAt

def envK (name : Str) (scope : Scope) (L a : Addr) (cd : Value) : Env :=
  { scope := scope, locals := L, globals := mainGlobals, cells := cellsFrom (L + 1) scope.names [], qual := name ++ ".<locals>.", func := some a, code := cd, frame := some L, builtins := builtinsNs }

theorem mkSpecC {M : Mod} (hp : recsOf M.q = recsOf pw) (k : Nat) {d : DefRec} {n : Nat} {args : List V} {Pre : Vw → Prop} {R : V → Vw → Prop} (names : List Str) (m₀ : Vars) (σ₀ : Addr → Hp) (e : (recsOf pw)[k]? = some d)
    (hkind : ∀ vals, vals.map er = args → ((names.zip vals).all fun y => d.scope.names.lookup y.1 == some .local || d.scope.names.lookup y.1 == some .cell) = true)
    (hm : ∀ vals, vals.map er = args → ∀ x v, m₀ x = some v → ∃ val, bindL (fun y => d.scope.names.lookup y) (names.zip vals) (fun _ => none) x = some val ∧ er val = v)
    (hσ : ∀ (L : Addr) vals, vals.map er = args → ∀ a o, σ₀ L a = some o → ∃ y, (cellsFrom (L + 1) d.scope.names []).lookup y = some a ∧ o = .cell ((bindC (fun y => d.scope.names.lookup y) (names.zip vals) (fun _ => none) y).map er))
    (hbind : ∀ vals pm code doc, vals.map er = args → bindArgs (docDef d.name d.params d.body d.scope pm code doc) ⟨vals, []⟩ = pure (names.zip vals))
    (hco : d.scope.isCoroutine = false) (hgen : d.scope.isGenerator = false) (hk : d.scope.kind = .function) (mono : Mono Pre) (monoR : ∀ v, Mono (R v))
    (body : ∀ c L fa code, In M c (envK d.name d.scope L fa code) n → Pre (baseOf c) → ∀ Q, Leads (fun f m σ => ∃ v, f = .ret v ∧ R v (own σ)) Q → X c NoE (execs d.body (envK d.name d.scope L fa code)) m₀ (σ₀ L) Q) :
    Spec M (n + 1) d.name args Pre R where
  mono := mono
  monoR := monoR
  run := fun A s fa vals hroom T hmg hv hpre hg => by
    obtain ⟨f, o, pm, code, doc, h1, h2, h3, h4⟩ := M.fnAt hp T e
    obtain rfl := same_addr h1 hmg
    refine codeAny_call_cells (fd := docDef d.name d.params d.body d.scope pm code doc) (body := d.body) (binds := names.zip vals) hroom.depth h2 h3 T.nolimit h4 rfl (hbind vals pm code doc hv) rfl
      (PySem.W.kindsX (scope := d.scope) (hkind vals hv) (s.heap.objs.size + 1)) (fun s₁ x => ?_) hco hgen hk
    obtain ⟨h₁, tk, hs₁⟩ := x.toInCall.same
    have I : In M { prog := M.p, w := M.w, A := A.deeper (envK d.name d.scope s.heap.objs.size f code), g := s.heap, L := s.heap.objs.size, os := s.os } (envK d.name d.scope s.heap.objs.size f code) n :=
      ⟨⟨rfl, hk, rfl, rfl⟩, rfl, rfl, T, hroom.deeper _⟩
    have S₁ : St { prog := M.p, w := M.w, A := A.deeper (envK d.name d.scope s.heap.objs.size f code), g := s.heap, L := s.heap.objs.size, os := s.os } m₀ (σ₀ s.heap.objs.size) s₁ := by
      refine ⟨⟨_, x.toInCall.ns, fun y v e => hm vals hv y v e⟩, x.toInCall.keep, fun a o e => ?_, Nat.le_refl _, by rw [hs₁]; exact hg, by rw [hs₁]⟩
      obtain ⟨y, hy, rfl⟩ := hσ _ vals hv a o e
      have hlt : s.heap.objs.size < a := x.above y a (mem_of_lookup hy)
      obtain ⟨oc, k1, k2⟩ := x.cell y a hy
      refine ⟨⟨oc, _, k1, k2, rfl⟩, Nat.ne_of_gt hlt, ?_⟩
      show s.heap.get? a = none
      cases q : s.heap.get? a with
      | none => rfl
      | some oo => exact absurd (Heap.lt_size q) (Nat.not_lt_of_gt hlt)
    refine wpAny_mono (body _ _ _ _ I hpre _ Leads.refl s₁ S₁) (fun fl s' ⟨m', σ', p, v, hv', hr⟩ => ?_) fun _ _ e => e.elim
    cases fl with
    | ret rv =>
      have hv'' : er rv = v := by simpa [erF] using hv'
      exact ⟨rv, σ', rfl, p.st.keep, p.st.gens, p.st.os, fun a o e => ⟨(p.st.own a o e).1, (p.st.own a o e).2.2⟩, hv'' ▸ hr⟩
    | next => cases hv'
    | brk => cases hv'
    | cont => cases hv'
end Mine

namespace Mine
open PySem PySem.Calls PyProof.Rows PySem.SeqAt

section
variable {c : Cx} {E : Value → Shared → Prop} {m : Vars} {σ : Hp} {env : Env} {x y : Str} {pos : Pos} {v : V} {Q : V → Vars → Hp → Prop} {QF : Fl → Vars → Hp → Prop}

theorem X.mono {t : Sem Flow} {Q₁ Q₂ : Fl → Vars → Hp → Prop} (h : X c E t m σ Q₁) (hq : ∀ f m' σ', Q₁ f m' σ' → Q₂ f m' σ') : X c E t m σ Q₂ := W.mono h fun f m' σ' => hq (erF f) m' σ'

theorem assign_pair {px py tp : Pos} {k : Nat} {value : Expr} (ho : EnvOk c env) (hh : c.A.handled = none) (hx : env.kindOf x = some .local) (hy : env.kindOf y = some .local)
    (h : Ev c E (eval value env) m σ fun v m₁ σ₁ => ∃ t u w, v = .ref t ∧ Sees c σ₁ t (.tuple [u, w]) ∧ QF .next (upd (upd m₁ x u) y w) σ₁)
    (hs : swapsWithSole [.Tuple [.Name x px, .Name y py] k tp] value pos.line env = pure false := by rfl) (hw : swappedStores [.Tuple [.Name x px, .Name y py] k tp] value env = pure none := by rfl) :
    X c E (exec (.Assign [.Tuple [.Name x px, .Name y py] k tp] value pos) env) m σ QF := fun s S => by
  refine Assign_Tuple (W.step h S fun val s₁ m₁ σ₁ p q => ?_) hs hw
  obtain ⟨t, u, w, e1, hs1, q⟩ := q
  obtain rfl := er_ref e1
  obtain ⟨items, n, h1, h2⟩ := hs1.at p.st
  obtain ⟨items⟩ := items
  obtain ⟨a, b, rfl⟩ := two_val (show items.map er = [u, w] from h2)
  · skip
    have ha : er a = u := by simpa using (List.cons.inj h2).1
    have hb : er b = w := by simpa using (List.cons.inj (List.cons.inj h2).2).1
    refine assign_Tuple_tuple hh ⟨_, h1, rfl, n, rfl⟩ (by rfl) (by rfl) fun h' he => ?_
    have p₂ := p.st.keeps (tk := s₁.toks) (fun b o e => he b o (Nat.ne_of_lt (Heap.lt_size e)) e)
    show wpAny c.M c.A (do holding [b] (assign (.Name x px) env a); holding [] (assign (.Name y py) env b); pure ()) _ E _
    refine wpAny_bind (wpAny_holding (W.step (asg_local (QU := fun _ m' σ' => m' = upd m₁ x u ∧ σ' = σ₁) ho hx ha ⟨rfl, rfl⟩) p₂.st fun _ s₃ m₃ σ₃ p₃ q₃ => ?_))
    obtain ⟨rfl, rfl⟩ := q₃
    refine wpAny_bind (wpAny_holding (W.step (asg_local (QU := fun _ m' σ' => m' = upd (upd m₁ x u) y w ∧ σ' = σ₃) ho hy hb ⟨rfl, rfl⟩) p₃.st fun _ s₄ m₄ σ₄ p₄ q₄ => ?_))
    obtain ⟨rfl, rfl⟩ := q₄
    exact wpAny_pure ⟨_, _, ((p.trans p₂).trans p₃).trans p₄, q⟩
end
end Mine

namespace Mine
open PySem PySem.Calls PyProof.Rows PySem.SeqAt

section
variable {c : Cx} {E : Value → Shared → Prop} {m : Vars} {σ : Hp} {env : Env} {x : Str} {pos : Pos} {v : V} {Q : V → Vars → Hp → Prop} {QU : Unit → Vars → Hp → Prop} {QF : Fl → Vars → Hp → Prop}

/-! ends of a list -/
theorem sub_last {value slice : Expr} {xs : List V} {l : Addr} {a b : Value} (ha : er a = .ref l) (hb : er b = .int (-1)) (hl : Sees c σ l (.list (xs ++ [v]))) (h : Q v m σ)
    (hs : ∀ t, subscripted slice false (.ref l) (.int (-1) t) = operate [.ref l, .int (-1) t] (getItem (.ref l) (.int (-1) t)) := by intro _; with_unfolding_all rfl) : Ev c E (subscriptTail value slice a b) m σ Q := fun s S => by
  obtain ⟨t, rfl⟩ := er_int hb; obtain rfl := er_ref ha
  obtain ⟨items, n, h1, h2⟩ := hl.at S
  have hlen : items.size = xs.length + 1 := by have := congrArg List.length h2; simpa using this
  have hv : (xs ++ [v])[xs.length]? = some v := by simp
  obtain ⟨val, h3, h4⟩ := item_at h2 hv
  have hidx : ((-1 : Int) + items.size).toNat = xs.length := by omega
  exact tail_any h1.isList.typeIs slot_list_getitem.lookup (wpAny_getItem_list_neg h1.isList (by decide) (by omega) (by decide) (by rw [hidx, ← Array.getElem?_toList]; exact h3) (done (.refl S) (h4 ▸ h))) (hs t)

theorem del_last {xs : List V} {l : Addr} {a b : Value} (ha : er a = .ref l) (hb : er b = .int (-1)) (hl : σ l = some (.list (xs ++ [v]))) (hz : xs.length ≤ 1000) (h : QU () m (upd σ l (.list xs))) : W c E (delItem a b) m σ QU := fun s S => by
  obtain ⟨t, rfl⟩ := er_int hb; obtain rfl := er_ref ha
  obtain ⟨items, n, h1, h2⟩ := (S.own l _ hl).1
  have hlen : items.size = xs.length + 1 := by have := congrArg List.length h2; simpa using this
  refine P.delItem_list (k := xs.length) h1 (by decide) ?_ ⟨_, _, S.change (tk := s.toks) (o' := .list xs) (Heap.SameBut.update ..) hl ⟨_, _, h1.update _, ?_⟩, h⟩ (by rw [sizeLine_eq]; omega)
  · have := seqIndex_neg (k := -1) (n := items.size) (by decide) (by omega)
    rw [this]
    congr 1; omega
  · have e : items.eraseIdxIfInBounds xs.length = items.pop := by
      unfold Array.eraseIdxIfInBounds
      rw [dif_pos (by omega)]
      apply Array.ext'
      rw [Array.toList_eraseIdx, Array.toList_pop]
      have : items.toList.length = xs.length + 1 := by simpa using hlen
      rw [List.dropLast_eq_take, this, List.eraseIdx_eq_take_drop_succ, List.drop_of_length_le (by omega)]
      simp
    rw [e, Array.toList_pop, List.map_dropLast, h2]
    simp
theorem delete_ {o i : Expr} {p' : Pos} (h : Ev c E (eval o env) m σ fun ov m₁ σ₁ => Ev c E (eval i env) m₁ σ₁ fun iv m₂ σ₂ => ∀ oval ival, er oval = ov → er ival = iv → W c E (delItem oval ival) m₂ σ₂ fun _ => QF .next) :
    X c E (exec (.Delete [.Subscript o i p'] pos) env) m σ QF := fun s S =>
  wpAny_Delete (wpAny_deleteEach_cons (wpAny_delete_Subscript (W.step h S fun a s₁ _ _ p q => W.step q p.st fun b s₂ _ _ p₂ q₂ => W.step (q₂ a b rfl rfl) p₂.st fun _ _ m₃ σ₃ p₃ q₃ => wpAny_deleteEach_nil ⟨m₃, σ₃, (p.trans p₂).trans p₃, q₃⟩)))

theorem slice_rev {value st : Expr} {p : Pos} (h : Ev c E (eval value env) m σ fun ov m₁ σ₁ => Ev c E (eval st env) m₁ σ₁ fun iv m₂ σ₂ => ∃ l xs, ov = .ref l ∧ iv = .int (-1) ∧ Sees c σ₂ l (.list xs) ∧ xs.length ≤ 1000 ∧
      ∀ r, σ₂ r = none → Q (.ref r) m₂ (upd σ₂ r (.list xs.reverse))) :
    Ev c E (eval (.Subscript value (.Slice none none (some st) p) pos) env) m σ Q := fun s S => by
  refine Subscript_ (W.step h S fun ov s₁ m₁ σ₁ p q => wpAny_Slice ?_)
  rw [evalPart_none]
  refine wpAny_pure (wpAny_pure (W.step q p.st fun iv s₂ m₂ σ₂ p₂ q₂ => ?_))
  obtain ⟨l, xs, e1, e2, hs, hz, q₂⟩ := q₂
  obtain rfl := er_ref e1
  obtain ⟨t, rfl⟩ := er_int e2
  have p₃ := p₂.st.pushed (tk := s₂.toks) (x := { cls := .type "slice", data := .fields #[.none, .none, .int (-1) t] })
  obtain ⟨items, n, h1, h2⟩ := hs.at p₃.st
  have e3 := congrArg List.length h2
  simp at e3
  obtain ⟨p₄, hn⟩ := p₃.st.push (tk := s₂.toks) (x := { cls := .type "list", data := .seq (slicePick items none none (some (-1))) }) (o := .list xs.reverse) ⟨_, _, IsL.new _ _, by rw [PySem.W.krv_pick]; simp [h2]⟩
  exact tail_any h1.isList.typeIs slot_list_getitem.lookup (wpAny_getItem_list_slice h1.isList (Heap.IsSliceOf.new ..) .none .none (.int _ _) (by simp) (done ((p.trans p₂).trans (p₃.trans p₄)) (q₂ _ hn)) (by rw [sizeLine_eq]; omega)) (by with_unfolding_all rfl)

theorem op_mul {i j : Int} {a b : Value} (ha : er a = .int i) (hb : er b = .int j) (hm : IntMulOk i j) (h : Q (.int (i * j)) m σ) : Ev c E (binaryOp .Mult a b) m σ Q := fun s S => by
  obtain ⟨t, rfl⟩ := er_int ha; obtain ⟨u, rfl⟩ := er_int hb
  exact PyProof.Rows.mul_int (done (S.toks _) h) hm

/-! text -/
end

end Mine

namespace Mine
open PySem PySem.Calls PyProof.Rows PySem.SeqAt

-- a name's value; an object of the heap; one step of the walk
local macro_rules | `(tactic| walk_at "vlook") => `(tactic| ((repeat' (first | with_reducible assumption | with_reducible exact upd_self | (with_reducible refine upd_ne (ofString_ne (by decide)) ?_))); done))
local macro_rules | `(tactic| walk_at "hlook") => `(tactic| ((repeat' (first | with_reducible assumption | with_reducible exact upd_self | (with_reducible refine upd_new (by with_reducible assumption) ?_) | (with_reducible refine upd_ne (by with_reducible assumption) ?_))); done))
local macro_rules | `(tactic| walk_at "sees") => `(tactic| first | with_reducible assumption | (with_reducible refine Sees.base ?_; with_reducible assumption) | (with_reducible refine Sees.own ?_; walk_at "hlook"))
local macro_rules | `(tactic| walk_at "stp") => `(tactic| (first
  | with_reducible refine execs_cons ?_
  | with_reducible refine execs_nil ?_
  | ((with_reducible show X _ _ (exec (Stmt.Assign [Expr.Name _ _] _ _) _) _ _ _); refine assign_local (by assumption) (by rfl) ?_ (by rfl))
  | ((with_reducible show X _ _ (exec (Stmt.Assign [Expr.Name _ _] _ _) _) _ _ _); refine assign_cell (by assumption) (by rfl) (by rfl) ?_ (by rfl))
  | with_reducible refine if_ ?_
  | with_reducible refine ret ?_
  | ((with_reducible show X _ _ (exec (Stmt.Expr _ _) _) _ _ _); refine expr_ ?_ (by rfl) (by rfl))
  | ((with_reducible show W _ _ (isTrue (Expr.Compare _ _ _ _) _ _) _ _ _); refine true_compare ?_ (by with_unfolding_all rfl))
  | with_reducible refine true_not ?_
  | with_reducible refine true_and ?_
  | with_reducible refine true_or ?_
  | with_reducible refine true_and_nil ?_
  | with_reducible refine true_or_nil ?_
  | ((with_reducible show Ev _ _ (eval (Expr.Compare _ _ _ _) _) _ _ _); refine compare ?_ (by with_unfolding_all rfl))
  | with_reducible refine binop ?_
  | with_reducible refine unop ?_
  | with_reducible refine bool_one ?_
  | with_reducible refine bool_and ?_
  | with_reducible refine bool_or ?_
  | ((with_reducible show Ev _ _ (eval (Expr.Call (Expr.Attribute _ _ _) _ _ _) _) _ _ _); refine append_ ?_ (by rfl) (by rfl))
  | with_reducible refine list_disp ?_
  | with_reducible refine tuple_disp ?_
  | with_reducible refine evs_nil ?_
  | ((with_reducible show Evs _ _ (spliced (backTo _ (starEach (_ :: _) _))) _ _ _); refine evs_cons ?_ (by rfl))
  | with_reducible refine const_int ?_
  | with_reducible refine const_str ?_
  | with_reducible refine const_bool ?_
  | with_reducible refine const_none ?_
  | ((with_reducible show Ev _ _ (eval (Expr.Name _ _) _) _ _ _); refine name_local (by assumption) (by rfl) (by walk_at "vlook") ?_ (by decide))
  | ((with_reducible show Ev _ _ (eval (Expr.Name _ _) _) _ _ _); refine name_cell (by assumption) (by rfl) (by rfl) (by walk_at "sees") ?_ (by decide))
  | with_reducible refine slice_from ?_
  | with_reducible refine slice_upto ?_
  | with_reducible refine slice_all ?_
  | with_reducible refine subscript ?_
  | ((with_reducible show W _ _ (isTrue _ _ _) _ _ _); refine true_plain ?_ (by rfl))
  | with_reducible refine Leads.go (by with_reducible assumption) ?_
  | fail "no step"); (try dsimp only))
local macro_rules | `(tactic| walk_at "run") => `(tactic| repeat walk_at "stp")
local macro_rules | `(tactic| walk_at "op0") => `(tactic| (intro va vb ha hb; first
  | ((with_reducible show Ev _ _ (subscriptTail _ _ _ _) _ _ _); first
    | (refine' sub_tuple ha hb ?k1 ?k2 ?k3 ?k4 ?_ ?k5; (case k1 => walk_at "sees"); (case k2 => first | decide | omega); (case k3 => first | decide | omega); (case k4 => first | rfl | assumption); (case k5 => intro _; with_unfolding_all rfl))
    | (refine' sub_list ha hb ?k1 ?k2 ?k3 ?k4 ?_ ?k5; (case k1 => walk_at "sees"); (case k2 => first | decide | omega); (case k3 => first | decide | omega); (case k4 => first | assumption | rfl); (case k5 => intro _; with_unfolding_all rfl))
    | (refine' sub_dict ha hb ?k1 ?k2 ?_ ?k5; (case k1 => walk_at "sees"); (case k2 => assumption); (case k5 => intro _; with_unfolding_all rfl)))
  | ((with_reducible show Ev _ _ (compareOp CmpOp.NotIn _ _) _ _ _); first
    | (refine' op_notin_strs ha hb ?k1 ?_; (case k1 => walk_at "sees"))
    | (refine' op_notin_dict ha hb ?k1 ?_; (case k1 => walk_at "sees")))
  | ((with_reducible show Ev _ _ (compareOp CmpOp.In _ _) _ _ _); first
    | (refine' op_in_strs ha hb ?k1 ?_; (case k1 => walk_at "sees"))
    | (refine' op_in_ints ha hb ?k1 ?_; (case k1 => walk_at "sees"))
    | (refine' op_in_dict ha hb ?k1 ?_; (case k1 => walk_at "sees")))
  | ((with_reducible show Ev _ _ (binaryOp Operator.Add _ _) _ _ _); refine' op_add ha hb ?_)
  | ((with_reducible show Ev _ _ (binaryOp Operator.Sub _ _) _ _ _); refine' op_sub ha hb ?_)
  | ((with_reducible show Ev _ _ (compareOp CmpOp.Eq _ _) _ _ _); first | refine' op_eq_int ha hb ?_ | refine' op_eq_str ha hb ?_ | refine' op_eq_bool ha hb ?_)
  | ((with_reducible show Ev _ _ (compareOp CmpOp.NotEq _ _) _ _ _); first | refine' op_ne_int ha hb ?_ | refine' op_ne_str ha hb ?_ | refine' op_ne_bool ha hb ?_)
  | ((with_reducible show Ev _ _ (compareOp CmpOp.Lt _ _) _ _ _); refine' op_lt_int ha hb ?_)
  | ((with_reducible show Ev _ _ (compareOp CmpOp.Gt _ _) _ _ _); refine' op_gt_int ha hb ?_)
  | fail "no op"))
local macro_rules | `(tactic| walk_at "op") => `(tactic| (walk_at "op0"; (try dsimp only)))

abbrev StrL (P : Vw) (a : Addr) (ss : List Str) : Prop := P a (.list (ss.map V.str))
def RuleP (P : Vw) (r : Addr) (x : Str × List Str) : Prop := ∃ b, P r (.tuple [V.str x.1, V.ref b]) ∧ StrL P b x.2
def GramP (P : Vw) (a : Addr) (g : G) : Prop := ∃ rs : List Addr, P a (.list (rs.map V.ref)) ∧ rs.length = g.length ∧ ∀ (i : Nat) r x, rs[i]? = some r → g[i]? = some x → RuleP P r x
theorem RuleP.mono {A B : Vw} {r : Addr} {x : Str × List Str} (h : ∀ a o, A a o → B a o) : RuleP A r x → RuleP B r x := fun ⟨b, h1, h2⟩ => ⟨b, h _ _ h1, h _ _ h2⟩
theorem GramP.mono {a : Addr} {g : G} : Mono fun P => GramP P a g := fun _ _ h ⟨rs, h1, h2, h3⟩ => ⟨rs, h _ _ h1, h2, fun i r x e1 e2 => (h3 i r x e1 e2).mono h⟩

def headsOf (g : G) : List Str := g.foldl (fun hs r => if r.1 ∈ hs then hs else hs ++ [r.1]) []
theorem headsOf_snoc (g : G) (r : Str × List Str) : headsOf (g ++ [r]) = if r.1 ∈ headsOf g then headsOf g else headsOf g ++ [r.1] := by
  rw [headsOf, List.foldl_append]; rfl
theorem headsOf_len (g : G) : (headsOf g).length ≤ g.length := by
  have key : ∀ (g : G) (hs : List Str), (g.foldl (fun hs r => if r.1 ∈ hs then hs else hs ++ [r.1]) hs).length ≤ hs.length + g.length := by
    intro g
    induction g with
    | nil => intro hs; exact Nat.le_refl _
    | cons r g ih =>
      intro hs
      rw [List.foldl_cons]
      refine Nat.le_trans (ih _) ?_
      split <;> simp <;> omega
  have := key g []
  rw [headsOf]; simpa using this

theorem take_succ_get {α : Type} {l : List α} {i : Nat} {x : α} (h : l[i]? = some x) : l.take (i + 1) = l.take i ++ [x] := by
  rw [List.take_add_one, h]; rfl
theorem map_get {α β : Type} {f : α → β} {l : List α} {i : Nat} {u : β} (h : (l.map f)[i]? = some u) : ∃ x, l[i]? = some x ∧ f x = u := by
  rw [List.getElem?_map] at h
  cases e : l[i]? with
  | none => rw [e] at h; cases h
  | some x => rw [e] at h; exact ⟨x, rfl, Option.some.inj h⟩
theorem get_same {α β : Type} {l : List α} {k : List β} {i : Nat} {x : α} (hl : l.length = k.length) (h : l[i]? = some x) : ∃ y, k[i]? = some y := by
  have := (List.getElem?_eq_some_iff.mp h).1
  exact ⟨k[i]'(by omega), by simp⟩

theorem spec_heads_of (M : Mod) (hM : Ok M) (g : G) (ag : Addr) (hz : g.length ≤ 50) : Spec M 2 (Str.ofString "heads_of") [.ref ag] (fun P => GramP P ag g) (fun v P => ∃ a, v = .ref a ∧ StrL P a (headsOf g)) := by
  refine mkSpec hM.p 1 [Str.ofString "g"] (by rfl) (by decide) (by decide) (by decide) (fun vals pm code doc h => by obtain ⟨a, rfl, _⟩ := one_val h; rfl) (by rfl) (by rfl) (by rfl) ?_ ?_ fun c L fa code I hpre Qf hQf => ?_
  · exact GramP.mono
  · rintro v A B h ⟨a, e, q⟩; exact ⟨a, e, h _ _ q⟩
  obtain ⟨rs, q1, q2, q3⟩ := hpre
  have ho := I.env
  dsimp only [vars0] at ho I ⊢
  walk_at "stp"
  walk_at "stp"
  walk_at "stp"
  walk_at "stp"
  refine ⟨by simp, fun ah hah => ?_⟩
  walk_at "stp"
  refine for_ I.room.1 (fun _ => .list ag (rs.map V.ref)) (fun _ i m σ => m (Str.ofString "heads") = some (.ref ah) ∧ σ ah = some (.list ((headsOf (g.take i)).map V.str)))
      ?_ (fun _ i m σ _ => .inr q1) (fun _ i m σ u hI hu val hval Qz hQz => ?_) (fun _ m σ hI => ?_)
  · walk_at "stp"
    exact ⟨⟨rfl, .inr q1⟩, upd_self, upd_self⟩
  · obtain ⟨hI1, hI2⟩ := hI
    obtain ⟨r, hr, rfl⟩ := map_get hu
    obtain ⟨⟨hd, bd⟩, hx⟩ := get_same q2 hr
    obtain ⟨b, k1, k2⟩ := q3 i r _ hr hx
    refine asg_local ho (by rfl) hval ?_
    have hlen := headsOf_len (g.take i)
    have hti : (g.take i).length ≤ g.length := by rw [List.length_take]; exact Nat.min_le_right _ _
    have hsn : headsOf (g.take (i + 1)) = if hd ∈ headsOf (g.take i) then headsOf (g.take i) else headsOf (g.take i) ++ [hd] := by rw [take_succ_get hx, headsOf_snoc]
    walk_at "run"
    walk_at "op"
    walk_at "run"
    walk_at "op"
    refine ⟨_, rfl, fun hb => ?_, fun hb => ?_⟩
    · have hb : ¬ hd ∈ headsOf (g.take i) := by simpa using hb
      walk_at "run"
      refine ⟨ah, rfl, ⟨_, .inl hI2⟩, ?_⟩
      walk_at "run"
      walk_at "op"
      refine ⟨_, hI2, by simp; omega, rfl, ?_⟩
      walk_at "run"
      refine ⟨by walk_at "vlook", ?_⟩
      rw [upd_self, hsn, if_neg hb, List.map_append]; rfl
    · have hb : hd ∈ headsOf (g.take i) := by simpa using hb
      walk_at "run"
      refine ⟨by walk_at "vlook", ?_⟩
      rw [hI2, hsn, if_pos hb]
  · obtain ⟨hI1, hI2⟩ := hI
    walk_at "run"
    refine ⟨_, rfl, ah, rfl, ?_⟩
    have : (Src.list ag (rs.map V.ref)).items.length = g.length := by simp [Src.items, q2]
    rw [this, List.take_length] at hI2
    exact hI2

def dedup (l : List Str) : List Str := l.foldl (fun u x => if x ∈ u then u else u ++ [x]) []
theorem dedup_snoc (l : List Str) (x : Str) : dedup (l ++ [x]) = if x ∈ dedup l then dedup l else dedup l ++ [x] := by
  rw [dedup, List.foldl_append]; rfl
theorem dedup_spec (l : List Str) : (dedup l).Nodup ∧ (∀ x, x ∈ dedup l ↔ x ∈ l) ∧ (dedup l).length ≤ l.length := by
  have key : ∀ (l u : List Str), u.Nodup → (l.foldl (fun u x => if x ∈ u then u else u ++ [x]) u).Nodup ∧ (∀ x, x ∈ l.foldl (fun u x => if x ∈ u then u else u ++ [x]) u ↔ x ∈ u ∨ x ∈ l) ∧ (l.foldl (fun u x => if x ∈ u then u else u ++ [x]) u).length ≤ u.length + l.length := by
    intro l
    induction l with
    | nil => intro u hu; exact ⟨hu, by simp, Nat.le_refl _⟩
    | cons y l ih =>
      intro u hu
      rw [List.foldl_cons]
      by_cases hy : y ∈ u
      · rw [if_pos hy]
        obtain ⟨h1, h2, h3⟩ := ih u hu
        refine ⟨h1, fun x => (h2 x).trans ?_, by simp; omega⟩
        rw [List.mem_cons]
        constructor
        · rintro (h | h)
          · exact .inl h
          · exact .inr (.inr h)
        · rintro (h | rfl | h)
          · exact .inl h
          · exact .inl hy
          · exact .inr h
      · rw [if_neg hy]
        have hu' : (u ++ [y]).Nodup := by
          rw [List.nodup_append]
          refine ⟨hu, by simp, ?_⟩
          intro a ha b hb
          rw [List.mem_singleton] at hb
          subst hb
          exact fun e => hy (e ▸ ha)
        obtain ⟨h1, h2, h3⟩ := ih _ hu'
        refine ⟨h1, fun x => (h2 x).trans ?_, by simp at h3 ⊢; omega⟩
        simp [or_assoc]
  obtain ⟨h1, h2, h3⟩ := key l [] .nil
  refine ⟨h1, fun x => ?_, by simpa [dedup] using h3⟩
  rw [dedup, h2]; simp

/-- two sets joined -/
def IsUnion (a b u : List Str) : Prop := Canon u ∧ ∀ x, x ∈ u ↔ x ∈ a ∨ x ∈ b

theorem spec_merged (M : Mod) (hM : Ok M) (a b : List Str) (la lb : Addr) (hz : a.length + b.length ≤ 60) :
    Spec M 2 (Str.ofString "merged") [.ref la, .ref lb] (fun P => StrL P la a ∧ StrL P lb b) (fun v P => ∃ r u, v = .ref r ∧ StrL P r u ∧ IsUnion a b u) := by
  refine mkSpec hM.p 2 [Str.ofString "a", Str.ofString "b"] (by rfl) (by decide) (by decide) (by decide) (fun vals pm code doc h => by obtain ⟨a, b, rfl⟩ := two_val h; rfl) (by rfl) (by rfl) (by rfl) ?_ ?_ fun c L fa code I hpre Qf hQf => ?_
  · rintro A B h ⟨q1, q2⟩; exact ⟨h _ _ q1, h _ _ q2⟩
  · rintro v A B h ⟨r, u, e, q, k⟩; exact ⟨r, u, e, h _ _ q, k⟩
  obtain ⟨q1, q2⟩ := hpre
  have ho := I.env
  dsimp only [vars0] at ho I ⊢
  walk_at "run"
  refine ⟨by simp, fun au hau => ?_⟩
  walk_at "stp"
  refine for_ I.room.1 (fun v => .list v.addr ((a ++ b).map V.str)) (fun v i m σ => And4 (m (Str.ofString "union") = some (.ref au)) (σ au = some (.list ((dedup ((a ++ b).take i)).map V.str))) (σ v.addr = some (.list ((a ++ b).map V.str))) (au ≠ v.addr))
      ?_ (fun _ i m σ h => .inl h.h3) (fun v i m σ u hI hu val hval Qz hQz => ?_) (fun _ m σ hI => ?_)
  · walk_at "run"
    intro va vb ha hb
    refine op_addl ha hb (.inr q1) (.inr q2) (by simpa using (by omega : a.length + b.length ≤ 1000)) fun r hr => ?_
    have hne : au ≠ r := ne_of_new hr upd_self
    refine ⟨⟨rfl, .inl ?_⟩, by walk_at "vlook", upd_new hr upd_self, ?_, hne⟩
    · show upd _ r _ r = _
      rw [upd_self, List.map_append]
    · show upd _ r _ r = _
      rw [upd_self, List.map_append]
  · obtain ⟨hI1, hI2, hI3, hI4⟩ := hI
    obtain ⟨x, hx, rfl⟩ := map_get hu
    refine asg_local ho (by rfl) hval ?_
    have hlen := (dedup_spec ((a ++ b).take i)).2.2
    have hti : ((a ++ b).take i).length ≤ a.length + b.length := by rw [List.length_take, List.length_append]; exact Nat.min_le_right _ _
    have hsn : dedup ((a ++ b).take (i + 1)) = if x ∈ dedup ((a ++ b).take i) then dedup ((a ++ b).take i) else dedup ((a ++ b).take i) ++ [x] := by rw [take_succ_get hx, dedup_snoc]
    walk_at "run"
    walk_at "op"
    refine ⟨_, rfl, fun hb => ?_, fun hb => ?_⟩
    · have hb : ¬ x ∈ dedup ((a ++ b).take i) := by simpa using hb
      walk_at "run"
      refine ⟨au, rfl, ⟨_, .inl hI2⟩, ?_⟩
      walk_at "run"
      refine ⟨_, hI2, by simp; omega, rfl, ?_⟩
      walk_at "run"
      refine ⟨by walk_at "vlook", ?_, upd_ne (Ne.symm hI4) hI3, hI4⟩
      rw [upd_self, hsn, if_neg hb, List.map_append]; rfl
    · have hb : x ∈ dedup ((a ++ b).take i) := by simpa using hb
      walk_at "run"
      refine ⟨by walk_at "vlook", ?_, hI3, hI4⟩
      rw [hI2, hsn, if_pos hb]
  · obtain ⟨hI1, hI2, hI3, hI4⟩ := hI
    have : (Src.list (V.addr ‹V›) ((a ++ b).map V.str)).items.length = (a ++ b).length := by simp [Src.items]
    rw [this, List.take_length] at hI2
    obtain ⟨d1, d2, d3⟩ := dedup_spec (a ++ b)
    walk_at "run"
    refine call_sorted hM I (by rfl) ?_
    walk_at "run"
    refine ⟨au, _, rfl, .inl hI2, ?_, fun r ss' hr hp hs => ?_⟩
    · rw [List.length_append] at d3; omega
    · refine hQf.go <| ⟨_, rfl, r, ss', rfl, upd_self, ⟨hp.nodup_iff.mpr d1, hs⟩, fun x => ?_⟩
      rw [hp.mem_iff, d2, List.mem_append]

/-- heads built from given symbols: closed under the rules -/
def BClosed (g : G) (gv : List Str) (N : Str → Prop) : Prop := ∀ h r, (h, r) ∈ g → (∀ s ∈ r, s ∈ gv ∨ N s) → N h
structure Found (g : G) (gv found : List Str) : Prop where
  nodup : found.Nodup
  heads : ∀ x ∈ found, IsHead g x
  least : ∀ N, BClosed g gv N → ∀ x ∈ found, N x
theorem Found.len {g : G} {gv found : List Str} (h : Found g gv found) : found.length ≤ g.length := by
  have := List.Nodup.length_le_of_subset h.nodup (l₂ := g.map (·.1)) fun x hx => by
    obtain ⟨r, hr⟩ := h.heads x hx
    exact List.mem_map.mpr ⟨_, hr, rfl⟩
  simpa using this
theorem Found.add {g : G} {gv found : List Str} (h : Found g gv found) {x : Str} {r : List Str} (hr : (x, r) ∈ g) (hx : x ∉ found) (hb : ∀ s ∈ r, s ∈ gv ∨ s ∈ found) : Found g gv (found ++ [x]) where
  nodup := by
    rw [List.nodup_append]
    refine ⟨h.nodup, by simp, ?_⟩
    intro a ha b hb
    rw [List.mem_singleton] at hb
    subst hb
    exact fun e => hx (e ▸ ha)
  heads := fun y hy => by
    rcases List.mem_append.mp hy with q | q
    · exact h.heads y q
    · rw [List.mem_singleton.mp q]; exact ⟨r, hr⟩
  least := fun N hN y hy => by
    rcases List.mem_append.mp hy with q | q
    · exact h.least N hN y q
    · rw [List.mem_singleton.mp q]
      exact hN x r hr fun s hs => (hb s hs).imp id (h.least N hN s)

theorem spec_heads_built_from (M : Mod) (hM : Ok M) (g : G) (gv : List Str) (ag av : Addr) (hz : g.length ≤ 50) (hb2 : ∀ x ∈ g, x.2.length ≤ 1000) :
    Spec M 2 (Str.ofString "heads_built_from") [.ref ag, .ref av] (fun P => GramP P ag g ∧ StrL P av gv)
      (fun v P => ∃ r ss, v = .ref r ∧ StrL P r ss ∧ Found g gv ss ∧ BClosed g gv (· ∈ ss)) := by
  refine mkSpecC hM.p 3 [Str.ofString "g", Str.ofString "given"] (upd (fun _ => none) (Str.ofString "g") (.ref ag)) (fun L => upd (upd (fun _ => none) (L + 1) (.cell (some (.ref av)))) (L + 1 + 1) (.cell none)) (by rfl)
    (fun vals h => by obtain ⟨a, b, rfl⟩ := two_val h; rfl) (fun vals h x v e => ?_) (fun L vals h a o e => ?_)
    (fun vals pm code doc h => by obtain ⟨a, b, rfl⟩ := two_val h; rfl) (by rfl) (by rfl) (by rfl) ?_ ?_ fun c L fa code I hpre Qf hQf => ?_
  · obtain ⟨a, b, rfl⟩ := two_val h
    unfold upd at e
    split at e
    · rename_i hx; subst hx; cases e
      refine ⟨a, by rfl, ?_⟩
      simpa using (List.cons.inj h).1
    · cases e
  · obtain ⟨a', b', rfl⟩ := two_val h
    have hb : er b' = .ref av := by simpa using (List.cons.inj (List.cons.inj h).2).1
    unfold upd at e
    split at e
    · rename_i hx; subst hx; cases e
      exact ⟨Str.ofString "found", by rfl, by rfl⟩
    · split at e
      · rename_i hx; subst hx; cases e
        refine ⟨Str.ofString "given", by rfl, ?_⟩
        rw [← hb]; rfl
      · cases e
  · rintro A B h ⟨q1, q2⟩; exact ⟨GramP.mono A B h q1, h _ _ q2⟩
  · rintro v A B h ⟨r, u, e, q, k⟩; exact ⟨r, u, e, h _ _ q, k⟩
  · obtain ⟨⟨rs, q1, q2, q3⟩, q4⟩ := hpre
    have ho := I.env
    dsimp only at ho I ⊢
    walk_at "run"
    refine ⟨by simp, fun af haf => ⟨none, upd_new haf upd_self, ?_⟩⟩
    walk_at "stp"
    walk_at "stp"
    walk_at "stp"
    walk_at "stp"
    have hLne : L + 1 ≠ L + 1 + 1 := Nat.ne_of_lt (Nat.lt_succ_self _)
    have hn1 : af ≠ L + 1 := Ne.symm (ne_of_new haf (upd_ne hLne upd_self))
    have hn2 : af ≠ L + 1 + 1 := Ne.symm (ne_of_new haf upd_self)
    -- what stands between the turns of the while
    refine while_ (fun k m σ => ∃ found ch, And8 (m (Str.ofString "g") = some (.ref ag)) (m (Str.ofString "changed") = some (.bool ch)) (σ (L + 1) = some (.cell (some (.ref av)))) (σ (L + 1 + 1) = some (.cell (some (.ref af)))) (σ af = some (.list (found.map V.str))) (Found g gv found) (ch = true → k = g.length - found.length + 1) (ch = false → BClosed g gv (· ∈ found))) (g.length + 1)
      ⟨[], true, by walk_at "vlook", by walk_at "vlook", ?_, upd_self, upd_ne hn2 upd_self, ⟨.nil, fun _ h => (nomatch h), fun _ _ _ h => (nomatch h)⟩, fun _ => by simp, fun h => (nomatch h)⟩ (fun k m σ hI Qz hQz => ?_)
    · exact upd_ne hLne (upd_new haf (upd_ne hLne upd_self))
    obtain ⟨found, ch, v1, v2, c1, c2, o1, hF, hk1, hk2⟩ := hI
    walk_at "run"
    refine ⟨ch, rfl, fun hch => ?_, fun hch => ?_⟩
    · subst hch
      have hk1 := hk1 rfl
      walk_at "stp"
      walk_at "stp"
      walk_at "stp"
      walk_at "stp"
      refine for_ I.room.1 (fun _ => .list ag (rs.map V.ref)) (fun _ i m σ => ∃ fnd ch, And8 (m (Str.ofString "g") = some (.ref ag)) (m (Str.ofString "changed") = some (.bool ch)) (σ (L + 1) = some (.cell (some (.ref av)))) (σ (L + 1 + 1) = some (.cell (some (.ref af)))) (σ af = some (.list (fnd.map V.str))) (Found g gv fnd) (ch = true → found.length < fnd.length) (ch = false → fnd = found ∧ ∀ x ∈ g.take i, (∀ s ∈ x.2, s ∈ gv ∨ s ∈ found) → x.1 ∈ found))
        ?_ (fun _ i m σ _ => .inr q1) (fun _ i m σ u hI hu val hval Qz hQz => ?_) (fun _ m σ hI => ?_)
      · walk_at "stp"
        exact ⟨⟨rfl, .inr q1⟩, found, false, by walk_at "vlook", by walk_at "vlook", c1, c2, o1, hF, fun h => (nomatch h), fun _ => ⟨rfl, fun _ h => by simp at h⟩⟩
      · obtain ⟨fnd, ch, v1, v2, c1, c2, o1, hF', j1, j2⟩ := hI
        obtain ⟨r, hr, rfl⟩ := map_get hu
        obtain ⟨⟨hd, bd⟩, hx⟩ := get_same q2 hr
        obtain ⟨b, k1, k2⟩ := q3 i r _ hr hx
        have hmem : (hd, bd) ∈ g := List.mem_of_getElem? hx
        refine asg_local ho (by rfl) hval ?_
        walk_at "run"
        walk_at "op"
        walk_at "run"
        walk_at "op"
        refine ⟨_, rfl, fun hb => ?_, fun hb => ?_⟩
        · have hb : ¬ hd ∈ fnd := by simpa using hb
          walk_at "stp"
          walk_at "stp"
          refine call_all hM I (by rfl) ?_
          walk_at "stp"
          refine listcomp I.room.1 ho (cl := [(Str.ofString "given", L + 1), (Str.ofString "found", L + 1 + 1)]) (fun _ => .list b (bd.map V.str)) (fun _ i ys σ' => σ' = σ ∧ ys = (bd.take i).map fun s => V.bool (decide (s ∈ gv) || decide (s ∈ fnd)))
            ?_ (fun _ i ys σ' _ => .inr k2) (fun _ i ys σ' u C hI' hu' hoC => ?_) (by rfl) (by decide) (by rfl) (by decide) (by decide)
          · walk_at "run"
            walk_at "op"
            refine ⟨⟨rfl, .inr k2⟩, ⟨rfl, by simp⟩, ?_, fun ys σ₂ D hI' hD => ?_⟩
            · simp only [Src.items, List.length_map]; exact hb2 _ hmem
            obtain ⟨rfl, rfl⟩ := hI'
            have hlen : (Src.list b (bd.map V.str)).items.length = bd.length := by simp [Src.items]
            rw [hlen, List.take_length]
            walk_at "stp"
            refine ⟨D, bd.map fun s => decide (s ∈ gv) || decide (s ∈ fnd), rfl, .inl ?_, ?_⟩
            · rw [upd_self, List.map_map]; rfl
            have hall : ((bd.map fun s => decide (s ∈ gv) || decide (s ∈ fnd)).all id) = decide (∀ s ∈ bd, s ∈ gv ∨ s ∈ fnd) := by
              rw [Bool.eq_iff_iff]; simp
            rw [hall]
            have d1 : L + 1 ≠ D := ne_of_new hD c1
            have d2 : L + 1 + 1 ≠ D := ne_of_new hD c2
            have d3 : af ≠ D := ne_of_new hD o1
            refine ⟨_, rfl, fun hb' => ?_, fun hb' => ?_⟩
            · have hb' : ∀ s ∈ bd, s ∈ gv ∨ s ∈ fnd := by simpa using hb'
              walk_at "stp"
              refine ⟨fun _ => ?_, fun h => (nomatch h)⟩
              walk_at "run"
              refine ⟨af, rfl, ⟨_, .inl (upd_ne d3 o1)⟩, ?_⟩
              walk_at "run"
              walk_at "op"
              refine ⟨_, upd_ne d3 o1, ?_, rfl, ?_⟩
              · have := hF'.len; simp; omega
              walk_at "run"
              refine ⟨fnd ++ [hd], true, by walk_at "vlook", by walk_at "vlook", upd_ne (Ne.symm hn1) (upd_ne d1 c1), upd_ne (Ne.symm hn2) (upd_ne d2 c2), ?_, hF'.add hmem hb hb', fun _ => ?_, fun h => (nomatch h)⟩
              · rw [upd_self, List.map_append]; rfl
              · cases ch with
                | true => have := j1 rfl; simp; omega
                | false => rw [(j2 rfl).1]; simp
            · have hb' : ¬ ∀ s ∈ bd, s ∈ gv ∨ s ∈ fnd := by simpa using hb'
              refine ⟨fun h => (nomatch h), fun _ => ?_⟩
              walk_at "run"
              refine ⟨fnd, ch, by walk_at "vlook", by walk_at "vlook", upd_ne d1 c1, upd_ne d2 c2, upd_ne d3 o1, hF', j1, fun h => ⟨(j2 h).1, fun x hx' hx'' => ?_⟩⟩
              rw [take_succ_get hx] at hx'
              rcases List.mem_append.mp hx' with q | q
              · exact (j2 h).2 x q hx''
              · rw [List.mem_singleton.mp q] at hx''
                exact absurd (by rw [(j2 h).1]; exact hx'') hb'
          · obtain ⟨rfl, rfl⟩ := hI'
            obtain ⟨s', hs', rfl⟩ := map_get hu'
            have b1 : baseOf (c.at C) av (O.list (gv.map V.str)) := q4
            walk_at "run"
            walk_at "op"
            refine ⟨_, rfl, fun h1 => ?_, fun h1 => ?_⟩
            · walk_at "run"
              walk_at "op"
              refine ⟨rfl, ?_⟩
              rw [take_succ_get hs', List.map_append, List.map_singleton, h1]; rfl
            · refine ⟨rfl, ?_⟩
              rw [take_succ_get hs', List.map_append]
              simp [h1]
        · have hb : hd ∈ fnd := by simpa using hb
          refine ⟨fun h => (nomatch h), fun _ => ?_⟩
          walk_at "run"
          refine ⟨fnd, ch, by walk_at "vlook", by walk_at "vlook", c1, c2, o1, hF', j1, fun h => ⟨(j2 h).1, fun x hx' hx'' => ?_⟩⟩
          rw [take_succ_get hx] at hx'
          rcases List.mem_append.mp hx' with q | q
          · exact (j2 h).2 x q hx''
          · rw [List.mem_singleton.mp q]; rw [(j2 h).1] at hb; exact hb
      · obtain ⟨fnd, ch, v1, v2, c1, c2, o1, hF', j1, j2⟩ := hI
        have hlen : (Src.list ag (rs.map V.ref)).items.length = g.length := by simp [Src.items, q2]
        rw [hlen, List.take_length] at j2
        walk_at "run"
        have l1 := hF'.len
        have l0 := hF.len
        refine ⟨if ch then g.length - fnd.length + 1 else 0, ?_, fnd, ch, v1, v2, c1, c2, o1, hF', fun h => by simp [h], fun h x r hr hb => ?_⟩
        · cases ch with
          | true => have := j1 rfl; simp; omega
          | false => simp; omega
        · obtain ⟨e, hcl⟩ := j2 h
          rw [e] at hb ⊢
          exact hcl (x, r) hr hb
    · subst hch
      walk_at "run"
      refine call_sorted hM I (by rfl) ?_
      walk_at "run"
      have l0 := hF.len
      refine ⟨af, found, rfl, .inl o1, by omega, fun r ss' hr hp hs => hQf.go <| ⟨_, rfl, r, ss', rfl, upd_self, ⟨hp.nodup_iff.mpr hF.nodup, fun x hx => hF.heads x (hp.mem_iff.mp hx), fun N hN x hx => hF.least N hN x (hp.mem_iff.mp hx)⟩, fun x r' hr' hb => ?_⟩⟩
      exact hp.mem_iff.mpr (hk2 rfl x r' hr' fun s hs => (hb s hs).imp id hp.mem_iff.mp)

/-- the heads that vanish -/
def NullOf (g : G) (ss : List Str) : Prop := Found g [] ss ∧ BClosed g [] (· ∈ ss)

theorem spec_nullable_heads (M : Mod) (hM : Ok M) (g : G) (ag : Addr) (hz : g.length ≤ 50) (hb2 : ∀ x ∈ g, x.2.length ≤ 1000) :
    Spec M 3 (Str.ofString "nullable_heads") [.ref ag] (fun P => GramP P ag g) (fun v P => ∃ r ss, v = .ref r ∧ StrL P r ss ∧ NullOf g ss) := by
  refine mkSpec hM.p 4 [Str.ofString "g"] (by rfl) (by decide) (by decide) (by decide) (fun vals pm code doc h => by obtain ⟨a, rfl, _⟩ := one_val h; rfl) (by rfl) (by rfl) (by rfl) ?_ ?_ fun c L fa code I hpre Qf hQf => ?_
  · exact GramP.mono
  · rintro v A B h ⟨r, u, e, q, k⟩; exact ⟨r, u, e, h _ _ q, k⟩
  have ho := I.env
  dsimp only [vars0] at ho I ⊢
  walk_at "run"
  refine call_def I (by rfl) (M.fn hM.p 3 (by rfl)) ?_
  walk_at "run"
  refine ⟨by simp, fun r hr => ?_⟩
  walk_at "run"
  refine ⟨_, _, _, spec_heads_built_from M hM g [] ag r hz hb2, by decide, ⟨GramP.mono _ _ (fun a o h => .inr h) hpre, .inl upd_self⟩, fun v σ₂ hext hR => ?_⟩
  obtain ⟨r', ss, e, q, k1, k2⟩ := hR
  exact hQf.go <| ⟨_, rfl, r', ss, e, q, k1, k2⟩

/-- a dict of lists of strs -/
def DictP (P : Vw) (a : Addr) (ks : List Str) (F : Str → List Str) : Prop := ∃ f : Str → Option V, P a (.dict ks f) ∧ (∀ k, k ∈ ks → ∃ l, f k = some (.ref l) ∧ StrL P l (F k)) ∧ (∀ k, k ∉ ks → f k = none)
theorem DictP.mono {a : Addr} {ks : List Str} {F : Str → List Str} : Mono fun P => DictP P a ks F := fun _ _ h ⟨f, h1, h2, h3⟩ => ⟨f, h _ _ h1, fun k hk => let ⟨l, q1, q2⟩ := h2 k hk; ⟨l, q1, h _ _ q2⟩, h3⟩

/-- what a string of symbols can begin with -/
def FSk (ks : List Str) (F : Str → List Str) (N : List Str) : List Str → Str → Prop
  | [], _ => False
  | x :: r, y => (x ∈ ks ∧ (y ∈ F x ∨ (x ∈ N ∧ FSk ks F N r y))) ∨ (x ∉ ks ∧ y = x)
def Vk (ks N : List Str) (r : List Str) : Prop := ∀ x ∈ r, x ∈ ks ∧ x ∈ N
theorem FSk_append {ks : List Str} {F : Str → List Str} {N a b : List Str} {y : Str} (h : Vk ks N a) : FSk ks F N (a ++ b) y ↔ (∃ x ∈ a, y ∈ F x) ∨ FSk ks F N b y := by
  induction a with
  | nil => simp
  | cons x a ih =>
    have h1 := h x List.mem_cons_self
    have ih := ih fun z hz => h z (List.mem_cons_of_mem _ hz)
    rw [List.cons_append, FSk]
    constructor
    · rintro (⟨_, q | ⟨_, q⟩⟩ | ⟨q, _⟩)
      · exact .inl ⟨x, List.mem_cons_self, q⟩
      · rcases ih.mp q with ⟨z, hz, q⟩ | q
        · exact .inl ⟨z, List.mem_cons_of_mem _ hz, q⟩
        · exact .inr q
      · exact absurd h1.1 q
    · rintro (⟨z, hz, q⟩ | q)
      · rcases List.mem_cons.mp hz with rfl | hz
        · exact .inl ⟨h1.1, .inl q⟩
        · exact .inl ⟨h1.1, .inr ⟨h1.2, ih.mpr (.inl ⟨z, hz, q⟩)⟩⟩
      · exact .inl ⟨h1.1, .inr ⟨h1.2, ih.mpr (.inr q)⟩⟩
theorem FSk_in {ks : List Str} {F : Str → List Str} {N U : List Str} {r : List Str} {y : Str} (hr : ∀ x ∈ r, x ∈ U) (hF : ∀ k ∈ ks, ∀ y ∈ F k, y ∈ U) (h : FSk ks F N r y) : y ∈ U := by
  induction r with
  | nil => exact h.elim
  | cons x r ih =>
    rcases h with ⟨h1, q | ⟨_, q⟩⟩ | ⟨_, rfl⟩
    · exact hF x h1 y q
    · exact ih (fun z hz => hr z (List.mem_cons_of_mem _ hz)) q
    · exact hr _ List.mem_cons_self
theorem Canon.le {l U : List Str} (h : Canon l) (hs : ∀ x ∈ l, x ∈ U) : l.length ≤ U.length := List.Nodup.length_le_of_subset h.1 hs

/-- the answer of first_of_string -/
def FirstR (ks : List Str) (F : Str → List Str) (N sy : List Str) (v : V) (P : Vw) : Prop :=
  ∃ t r u b, v = .ref t ∧ P t (.tuple [.ref r, .bool b]) ∧ StrL P r u ∧ Canon u ∧ (∀ y, y ∈ u ↔ FSk ks F N sy y) ∧ (b = true ↔ Vk ks N sy)

theorem drop_get {α : Type} {l : List α} {i : Nat} {x : α} (h : l[i]? = some x) : l.drop i = x :: l.drop (i + 1) := by
  obtain ⟨h1, rfl⟩ := List.getElem?_eq_some_iff.mp h
  exact List.drop_eq_getElem_cons h1

theorem spec_first_of_string (M : Mod) (hM : Ok M) (ks : List Str) (F : Str → List Str) (N sy U : List Str) (ls lf ln : Addr) (hU : U.length ≤ 29) (hsy : ∀ x ∈ sy, x ∈ U) (hF : ∀ k ∈ ks, ∀ y ∈ F k, y ∈ U) (hFl : ∀ k ∈ ks, (F k).length ≤ 29) :
    Spec M 3 (Str.ofString "first_of_string") [.ref ls, .ref lf, .ref ln] (fun P => StrL P ls sy ∧ DictP P lf ks F ∧ StrL P ln N) (FirstR ks F N sy) := by
  refine mkSpec hM.p 5 [Str.ofString "symbols", Str.ofString "firsts", Str.ofString "nullables"] (by rfl) (by decide) (by decide) (by decide) (fun vals pm code doc h => by obtain ⟨a, b, d, rfl⟩ := three_val h; rfl) (by rfl) (by rfl) (by rfl) ?_ ?_ fun c L fa code I hpre Qf hQf => ?_
  · rintro A B h ⟨q1, q2, q3⟩; exact ⟨h _ _ q1, DictP.mono A B h q2, h _ _ q3⟩
  · rintro v A B h ⟨t, r, u, b, q1, q2, q3, q4⟩; exact ⟨t, r, u, b, q1, h _ _ q2, h _ _ q3, q4⟩
  obtain ⟨q1, ⟨f, q2, q3, q4⟩, q5⟩ := hpre
  have ho := I.env
  dsimp only [vars0] at ho I ⊢
  walk_at "run"
  refine ⟨by simp, fun ab0 hab0 => ?_⟩
  walk_at "stp"
  refine for_ I.room.1 (fun _ => .list ls (sy.map V.str)) (fun _ i m σ => ∃ ab bg, And7 (m (Str.ofString "firsts") = some (.ref lf)) (m (Str.ofString "nullables") = some (.ref ln)) (m (Str.ofString "begins") = some (.ref ab)) (σ ab = some (.list (bg.map V.str))) (Canon bg) (∀ y, y ∈ bg ↔ ∃ x ∈ sy.take i, y ∈ F x) (Vk ks N (sy.take i)))
      ?_ (fun _ i m σ h => .inr q1) (fun v i m σ u hI hu val hval Qz hQz => ?_) (fun _ m σ hI => ?_)
  · walk_at "run"
    exact ⟨⟨rfl, .inr q1⟩, ab0, [], by walk_at "vlook", by walk_at "vlook", by walk_at "vlook", upd_self, Canon.nil, by simp, fun _ h => by simp at h⟩
  · obtain ⟨ab, bg, v1, v2, v3, o1, hC, hbg, hV⟩ := hI
    obtain ⟨x, hx, rfl⟩ := map_get hu
    have hxm : x ∈ sy := List.mem_of_getElem? hx
    have hsplit : sy = sy.take i ++ x :: sy.drop (i + 1) := by rw [← drop_get hx, List.take_append_drop]
    have hbgU : bg.length ≤ 29 := Nat.le_trans (hC.le (U := U) fun y hy => by
      obtain ⟨z, hz, q⟩ := (hbg y).mp hy
      exact hF z (hV z hz).1 y q) hU
    refine asg_local ho (by rfl) hval ?_
    walk_at "run"
    walk_at "op"
    refine ⟨_, rfl, fun hb => ?_, fun hb => ?_⟩
    · have hk : x ∉ ks := fun hk => by
        obtain ⟨l, e, _⟩ := q3 x hk
        rw [e] at hb; cases hb
      walk_at "run"
      refine call_def I (by rfl) (M.fn hM.p 2 (by rfl)) ?_
      walk_at "run"
      refine ⟨by simp, fun r hr => ?_⟩
      walk_at "run"
      refine ⟨_, _, _, spec_merged M hM bg [x] ab r (by simp; omega), by decide, ⟨.inl (upd_new hr o1), .inl upd_self⟩, fun v σ₂ hext hR => ?_⟩
      obtain ⟨r', u, rfl, e1, hCu, hu⟩ := hR
      walk_at "run"
      refine ⟨by simp, fun t ht => hQz.go <| hQf.go <| ⟨_, rfl, t, r', u, false, rfl, upd_self, upd_new ht e1, hCu, fun y => ?_, ?_⟩⟩
      · rw [hsplit, FSk_append hV, hu, hbg, List.mem_singleton, FSk]
        constructor
        · rintro (q | q)
          · exact .inl q
          · exact .inr (.inr ⟨hk, q⟩)
        · rintro (q | ⟨q, _⟩ | ⟨_, q⟩)
          · exact .inl q
          · exact absurd q hk
          · exact .inr q
      · simp only [Bool.false_eq_true, false_iff]
        exact fun h => hk (h x hxm).1
    · have hk : x ∈ ks := Classical.byContradiction fun hk => by rw [q4 x hk] at hb; cases hb
      obtain ⟨l, e1, e2⟩ := q3 x hk
      walk_at "stp"
      walk_at "stp"
      walk_at "stp"
      refine call_def I (by rfl) (M.fn hM.p 2 (by rfl)) ?_
      walk_at "run"
      walk_at "op"
      walk_at "run"
      have hFx := hFl x hk
      refine ⟨_, _, _, spec_merged M hM bg (F x) ab l (by omega), by decide, ⟨.inl o1, .inr e2⟩, fun v σ₂ hext hR => ?_⟩
      obtain ⟨r', u, rfl, e3, hCu, hu⟩ := hR
      have hu' : ∀ y, y ∈ u ↔ ∃ z ∈ sy.take (i + 1), y ∈ F z := fun y => by
        rw [hu, hbg, take_succ_get hx]
        simp only [List.mem_append, List.mem_singleton]
        constructor
        · rintro (⟨z, hz, q⟩ | q)
          · exact ⟨z, .inl hz, q⟩
          · exact ⟨x, .inr rfl, q⟩
        · rintro ⟨z, hz | rfl, q⟩
          · exact .inl ⟨z, hz, q⟩
          · exact .inr q
      walk_at "run"
      walk_at "op"
      refine ⟨_, rfl, fun hn => ?_, fun hn => ?_⟩
      · have hn : x ∉ N := by simpa using hn
        walk_at "run"
        refine ⟨by simp, fun t ht => hQz.go <| hQf.go <| ⟨_, rfl, t, r', u, false, rfl, upd_self, upd_new ht e3, hCu, fun y => ?_, ?_⟩⟩
        · rw [hsplit, FSk_append hV, hu, hbg, FSk]
          constructor
          · rintro (q | q)
            · exact .inl q
            · exact .inr (.inl ⟨hk, .inl q⟩)
          · rintro (q | ⟨_, q | ⟨q, _⟩⟩ | ⟨q, _⟩)
            · exact .inl q
            · exact .inr q
            · exact absurd q hn
            · exact absurd hk q
        · simp only [Bool.false_eq_true, false_iff]
          exact fun h => hn (h x hxm).2
      · have hn : x ∈ N := by simpa using hn
        walk_at "run"
        refine ⟨r', u, by walk_at "vlook", by walk_at "vlook", by walk_at "vlook", e3, hCu, hu', fun z hz => ?_⟩
        rw [take_succ_get hx] at hz
        rcases List.mem_append.mp hz with q | q
        · exact hV z q
        · rw [List.mem_singleton.mp q]; exact ⟨hk, hn⟩
  · obtain ⟨ab, bg, v1, v2, v3, o1, hC, hbg, hV⟩ := hI
    have hlen : (Src.list ls (sy.map V.str)).items.length = sy.length := by simp [Src.items]
    rw [hlen, List.take_length] at hbg hV
    walk_at "run"
    refine ⟨by simp, fun t ht => hQf.go <| ⟨_, rfl, t, ab, bg, true, rfl, upd_self, upd_new ht o1, hC, fun y => ?_, ?_⟩⟩
    · have := FSk_append (b := []) (F := F) (y := y) hV
      rw [List.append_nil] at this
      rw [hbg, this, FSk]; simp
    · simp only [true_iff]; exact hV

theorem headsOf_spec (g : G) : (headsOf g).Nodup ∧ ∀ x, x ∈ headsOf g ↔ IsHead g x := by
  have key : ∀ (g : G) (hs : List Str), hs.Nodup → (g.foldl (fun hs r => if r.1 ∈ hs then hs else hs ++ [r.1]) hs).Nodup ∧ ∀ x, x ∈ g.foldl (fun hs r => if r.1 ∈ hs then hs else hs ++ [r.1]) hs ↔ x ∈ hs ∨ IsHead g x := by
    intro g
    induction g with
    | nil => intro hs h; exact ⟨h, fun x => ⟨.inl, fun q => q.elim id fun ⟨_, q⟩ => nomatch q⟩⟩
    | cons r g ih =>
      intro hs h
      rw [List.foldl_cons]
      have hh : ∀ x, IsHead (r :: g) x ↔ x = r.1 ∨ IsHead g x := fun x => by
        constructor
        · rintro ⟨b, hb⟩
          rcases List.mem_cons.mp hb with q | q
          · exact .inl (by rw [← q])
          · exact .inr ⟨b, q⟩
        · rintro (rfl | ⟨b, hb⟩)
          · exact ⟨r.2, List.mem_cons_self⟩
          · exact ⟨b, List.mem_cons_of_mem _ hb⟩
      by_cases hr : r.1 ∈ hs
      · rw [if_pos hr]
        obtain ⟨h1, h2⟩ := ih hs h
        refine ⟨h1, fun x => ?_⟩
        rw [h2, hh]
        constructor
        · rintro (q | q)
          · exact .inl q
          · exact .inr (.inr q)
        · rintro (q | rfl | q)
          · exact .inl q
          · exact .inl hr
          · exact .inr q
      · rw [if_neg hr]
        have hn : (hs ++ [r.1]).Nodup := by
          rw [List.nodup_append]
          refine ⟨h, by simp, ?_⟩
          intro a ha b hb
          rw [List.mem_singleton] at hb
          subst hb
          exact fun e => hr (e ▸ ha)
        obtain ⟨h1, h2⟩ := ih _ hn
        refine ⟨h1, fun x => ?_⟩
        rw [h2, hh, List.mem_append, List.mem_singleton, or_assoc]
  obtain ⟨h1, h2⟩ := key g [] .nil
  refine ⟨h1, fun x => ?_⟩
  rw [headsOf, h2]; simp

abbrev dol : Str := Str.ofString "$"
def symsOf (g : G) : List Str := g.flatMap fun x => x.1 :: x.2
/-- every symbol, and the end mark -/
def univ (g : G) : List Str := dol :: symsOf g
theorem univ_body {g : G} {x : Str × List Str} (h : x ∈ g) : ∀ y ∈ x.2, y ∈ univ g := fun y hy => List.mem_cons_of_mem _ (List.mem_flatMap.mpr ⟨x, h, List.mem_cons_of_mem _ hy⟩)
theorem body_len {g : G} {x : Str × List Str} (h : x ∈ g) : x.2.length + 1 ≤ (symsOf g).length := by
  induction g with
  | nil => cases h
  | cons y g ih =>
    simp only [symsOf, List.flatMap_cons, List.length_append, List.length_cons]
    rcases List.mem_cons.mp h with rfl | h
    · omega
    · have := ih h
      simp only [symsOf] at this
      omega
theorem syms_len (g : G) : g.length ≤ (symsOf g).length := by
  induction g with
  | nil => exact Nat.le_refl _
  | cons y g ih =>
    simp only [symsOf, List.flatMap_cons, List.length_append, List.length_cons] at ih ⊢
    omega

theorem own_new {σ : Hp} {r : Addr} {o : O} (h : σ r = none) : ∀ a o', own σ a o' → own (upd σ r o) a o' := fun a o' e => upd_new h e

theorem addKey_mem {ks : List Str} {k x : Str} : x ∈ addKey ks k ↔ x ∈ ks ∨ x = k := by
  unfold addKey
  split
  · rename_i h
    constructor
    · exact .inl
    · rintro (q | rfl)
      · exact q
      · exact h
  · simp
theorem addKey_old {ks : List Str} {k : Str} (h : k ∈ ks) : addKey ks k = ks := if_pos h
theorem addKey_new {ks : List Str} {k : Str} (h : k ∉ ks) : addKey ks k = ks ++ [k] := if_neg h

theorem DictP.set {σ : Hp} {lf : Addr} {ks : List Str} {f : Str → Option V} {F : Str → List Str} {k : Str} {l : Addr} {u : List Str} (h1 : σ lf = some (.dict ks f)) (h2 : ∀ k, k ∈ ks → ∃ l, f k = some (.ref l) ∧ StrL (own σ) l (F k)) (h3 : ∀ k, k ∉ ks → f k = none)
    (hl : σ l = some (.list (u.map V.str))) : DictP (own (upd σ lf (.dict (addKey ks k) (upd f k (.ref l))))) lf (addKey ks k) (fun x => if x = k then u else F x) := by
  have other : ∀ l' (u' : List Str), σ l' = some (.list (u'.map V.str)) → upd σ lf (.dict (addKey ks k) (upd f k (.ref l))) l' = some (.list (u'.map V.str)) := fun l' u' e => upd_ne (fun q => by rw [q, h1] at e; cases e) e
  refine ⟨_, upd_self, fun x hx => ?_, fun x hx => ?_⟩
  · by_cases hxk : x = k
    · subst hxk
      exact ⟨l, upd_self, by simp only [if_true]; exact other l u hl⟩
    · obtain ⟨l', e1, e2⟩ := h2 x ((addKey_mem.mp hx).resolve_right hxk)
      exact ⟨l', upd_ne hxk e1, by simp only [hxk, if_false]; exact other l' _ e2⟩
  · rw [addKey_mem] at hx
    exact upd_ne (fun q => hx (.inr q)) (h3 x fun q => hx (.inl q))

def tot (ks : List Str) (F : Str → List Str) : Nat := (ks.map fun k => (F k).length).sum
theorem tot_le {ks : List Str} {F : Str → List Str} {b : Nat} (h : ∀ k ∈ ks, (F k).length ≤ b) : tot ks F ≤ ks.length * b := by
  induction ks with
  | nil => simp [tot]
  | cons k ks ih =>
    have h1 := h k List.mem_cons_self
    have h2 := ih fun x hx => h x (List.mem_cons_of_mem _ hx)
    simp only [tot, List.map_cons, List.sum_cons, List.length_cons, Nat.add_mul, Nat.one_mul] at h2 ⊢
    omega
theorem tot_lt {ks : List Str} {F F' : Str → List Str} (h : ∀ k ∈ ks, (F k).length ≤ (F' k).length) (hx : ∃ k ∈ ks, (F k).length < (F' k).length) : tot ks F < tot ks F' := by
  have le : ∀ ks : List Str, (∀ k ∈ ks, (F k).length ≤ (F' k).length) → tot ks F ≤ tot ks F' := by
    intro ks
    induction ks with
    | nil => intro _; exact Nat.le_refl _
    | cons k ks ih =>
      intro h
      have h1 := h k List.mem_cons_self
      have h2 := ih fun x hx => h x (List.mem_cons_of_mem _ hx)
      simp only [tot, List.map_cons, List.sum_cons] at h2 ⊢
      omega
  induction ks with
  | nil => obtain ⟨_, q, _⟩ := hx; cases q
  | cons k ks ih =>
    have h1 := h k List.mem_cons_self
    have h2 : ∀ x ∈ ks, (F x).length ≤ (F' x).length := fun x hx => h x (List.mem_cons_of_mem _ hx)
    obtain ⟨z, hz, hlt⟩ := hx
    rcases List.mem_cons.mp hz with rfl | hz
    · have := le ks h2
      simp only [tot, List.map_cons, List.sum_cons] at this ⊢
      omega
    · have := ih h2 ⟨z, hz, hlt⟩
      simp only [tot, List.map_cons, List.sum_cons] at this ⊢
      omega

theorem FSt_mono {g : G} {N : Str → Prop} {A B : Str → Str → Prop} (h : ∀ x, IsHead g x → ∀ y, A x y → B x y) {r : List Str} {y : Str} (q : FSt g N A r y) : FSt g N B r y := by
  induction r with
  | nil => exact q
  | cons x r ih =>
    rcases q with ⟨h1, h2 | ⟨h3, h4⟩⟩ | q
    · exact .inl ⟨h1, .inl (h x h1 y h2)⟩
    · exact .inl ⟨h1, .inr ⟨h3, ih h4⟩⟩
    · exact .inr q
theorem FSk_iff {g : G} {F : Str → List Str} {N r : List Str} {y : Str} : FSk (headsOf g) F N r y ↔ FSt g (· ∈ N) (fun x y => y ∈ F x) r y := by
  induction r with
  | nil => exact Iff.rfl
  | cons x r ih =>
    have hx := (headsOf_spec g).2 x
    show (_ ∨ _) ↔ (_ ∨ _)
    rw [hx, ih]
theorem Vk_iff {g : G} {N r : List Str} : Vk (headsOf g) N r ↔ Van g (· ∈ N) r := by
  constructor
  · exact fun h x hx => ⟨((headsOf_spec g).2 x).mp (h x hx).1, (h x hx).2⟩
  · exact fun h x hx => ⟨((headsOf_spec g).2 x).mpr (h x hx).1, (h x hx).2⟩

/-- first sets, so far: sound -/
structure FSound (g : G) (N : List Str) (F : Str → List Str) : Prop where
  canon : ∀ k ∈ headsOf g, Canon (F k)
  inU : ∀ k ∈ headsOf g, ∀ y ∈ F k, y ∈ univ g
  least : ∀ A : Str → Str → Prop, (∀ h r y, (h, r) ∈ g → FSt g (· ∈ N) A r y → A h y) → ∀ k ∈ headsOf g, ∀ y ∈ F k, A k y
def FClosed (g : G) (N : List Str) (F : Str → List Str) : Prop := ∀ h r y, (h, r) ∈ g → FSt g (· ∈ N) (fun x y => y ∈ F x) r y → y ∈ F h
def FirstsOf (g : G) (F : Str → List Str) : Prop := ∃ N, NullOf g N ∧ FSound g N F ∧ FClosed g N F
theorem FSound.len {g : G} {N : List Str} {F : Str → List Str} (h : FSound g N F) (hg : (symsOf g).length ≤ 28) : ∀ k ∈ headsOf g, (F k).length ≤ 29 := fun k hk => by
  have := (h.canon k hk).le (h.inU k hk)
  simp only [univ, List.length_cons] at this
  omega

theorem spec_first_sets (M : Mod) (hM : Ok M) (g : G) (ag : Addr) (hg : (symsOf g).length ≤ 28) :
    Spec M 4 (Str.ofString "first_sets") [.ref ag] (fun P => GramP P ag g) (fun v P => ∃ a F, v = .ref a ∧ DictP P a (headsOf g) F ∧ FirstsOf g F) := by
  have hgl : g.length ≤ 28 := Nat.le_trans (syms_len g) hg
  have hgb : ∀ x ∈ g, x.2.length ≤ 1000 := fun x hx => by have := body_len hx; omega
  have hhl := headsOf_len g
  obtain ⟨hnd, hmem⟩ := headsOf_spec g
  refine mkSpec hM.p 6 [Str.ofString "g"] (by rfl) (by decide) (by decide) (by decide) (fun vals pm code doc h => by obtain ⟨a, rfl, _⟩ := one_val h; rfl) (by rfl) (by rfl) (by rfl) ?_ ?_ fun c L fa code I hpre Qf hQf => ?_
  · exact GramP.mono
  · rintro v A B h ⟨a, F, e, q, k⟩; exact ⟨a, F, e, DictP.mono A B h q, k⟩
  have ho := I.env
  dsimp only [vars0] at ho I ⊢
  have hpre' := hpre
  obtain ⟨rs, q1, q2, q3⟩ := hpre
  have hgram : ∀ σ, GramP (Sees c σ) ag g := fun σ => GramP.mono _ _ (fun a o h => .inr h) hpre'
  walk_at "stp"
  walk_at "stp"
  refine call_def I (by rfl) (M.fn hM.p 4 (by rfl)) ?_
  walk_at "run"
  refine ⟨_, _, _, spec_nullable_heads M hM g ag (by omega) hgb, by decide, hgram _, fun v σ₁ _ hR => ?_⟩
  obtain ⟨ln, N, rfl, oN, hN⟩ := hR
  have oN : σ₁ ln = some (.list (N.map V.str)) := oN
  walk_at "stp"
  walk_at "stp"
  refine new_dict hM I fun lf hlf => ?_
  walk_at "stp"
  refine for_ I.room.1 (fun v => .list v.addr ((headsOf g).map V.str)) (fun v i m σ => And6 (m (Str.ofString "g") = some (.ref ag)) (m (Str.ofString "nullables") = some (.ref ln)) (m (Str.ofString "firsts") = some (.ref lf)) (σ v.addr = some (.list ((headsOf g).map V.str))) (σ ln = some (.list (N.map V.str))) (DictP (own σ) lf ((headsOf g).take i) (fun _ => [])))
      ?_ (fun _ i m σ h => .inl h.h4) (fun v i m σ u hI hu val hval Qz hQz => ?_) (fun v m σ hI => ?_)
  · refine call_def I (by rfl) (M.fn hM.p 1 (by rfl)) ?_
    walk_at "run"
    refine ⟨_, _, _, spec_heads_of M hM g ag (by omega), by decide, hgram _, fun v σ₂ hext hR => ?_⟩
    obtain ⟨lh, rfl, oh⟩ := hR
    exact ⟨⟨rfl, .inl oh⟩, by walk_at "vlook", by walk_at "vlook", by walk_at "vlook", oh, hext _ _ (upd_new hlf oN), _, hext _ _ upd_self, fun k hk => by simp at hk, fun k _ => rfl⟩
  · obtain ⟨v1, v2, v3, o1, o2, f, d1, d2, d3⟩ := hI
    obtain ⟨x, hx, rfl⟩ := map_get hu
    refine asg_local ho (by rfl) hval ?_
    walk_at "stp"
    refine assign_sub ?_ (by rfl)
    walk_at "run"
    refine ⟨by simp, fun l hl => ?_⟩
    walk_at "run"
    intro val oval ival e1 e2 e3
    have hxn : x ∉ (headsOf g).take i := fun hm => by
      have h1 := hnd
      rw [← List.take_append_drop i (headsOf g), drop_get hx, List.nodup_append] at h1
      exact h1.2.2 x hm x List.mem_cons_self rfl
    refine set_dict e2 e3 e1 (upd_new hl d1) (by have : ((headsOf g).take i).length ≤ (headsOf g).length := by rw [List.length_take]; exact Nat.min_le_right _ _
                                                 omega) ?_
    walk_at "run"
    have hlf' : lf ≠ l := ne_of_new hl d1
    refine ⟨by walk_at "vlook", by walk_at "vlook", by walk_at "vlook", upd_ne (fun q => by rw [q, d1] at o1; cases o1) (upd_new hl o1), upd_ne (fun q => by rw [q, d1] at o2; cases o2) (upd_new hl o2), ?_⟩
    have := DictP.set (σ := upd σ l (.list [])) (lf := lf) (k := x) (l := l) (u := []) (F := fun _ => []) (upd_new hl d1) (fun k hk => let ⟨l', q1, q2⟩ := d2 k hk; ⟨l', q1, upd_new hl q2⟩) d3 upd_self
    rw [addKey_new hxn] at this ⊢
    rw [take_succ_get hx]
    simpa using this
  · obtain ⟨v1, v2, v3, o1, o2, hD⟩ := hI
    have hlen : (Src.list v.addr ((headsOf g).map V.str)).items.length = (headsOf g).length := by simp [Src.items]
    rw [hlen, List.take_length] at hD
    walk_at "stp"
    walk_at "stp"
    walk_at "stp"
    walk_at "stp"
    refine while_ (fun k m σ => ∃ F ch, And9 (m (Str.ofString "g") = some (.ref ag)) (m (Str.ofString "nullables") = some (.ref ln)) (m (Str.ofString "firsts") = some (.ref lf)) (m (Str.ofString "changed") = some (.bool ch)) (σ ln = some (.list (N.map V.str))) (DictP (own σ) lf (headsOf g) F) (FSound g N F) (ch = true → k = (headsOf g).length * 29 - tot (headsOf g) F + 1) (ch = false → FClosed g N F)) _
      ⟨fun _ => [], true, by walk_at "vlook", by walk_at "vlook", by walk_at "vlook", by walk_at "vlook", o2, hD, ⟨fun _ _ => Canon.nil, fun _ _ _ h => (nomatch h), fun _ _ _ _ _ h => (nomatch h)⟩, fun _ => rfl, fun h => (nomatch h)⟩ (fun k m σ hI Qz hQz => ?_)
    clear v1 v2 v3 o1 o2 hD
    obtain ⟨F, ch, v1, v2, v3, v4, o2, hD, hS, hk1, hk2⟩ := hI
    walk_at "run"
    refine ⟨ch, rfl, fun hch => ?_, fun hch => ?_⟩
    · subst hch
      have hk1 := hk1 rfl
      walk_at "stp"
      walk_at "stp"
      walk_at "stp"
      walk_at "stp"
      refine for_ I.room.1 (fun _ => .list ag (rs.map V.ref)) (fun _ i m σ => ∃ F' ch, And9 (m (Str.ofString "g") = some (.ref ag)) (m (Str.ofString "nullables") = some (.ref ln)) (m (Str.ofString "firsts") = some (.ref lf)) (m (Str.ofString "changed") = some (.bool ch)) (σ ln = some (.list (N.map V.str))) (DictP (own σ) lf (headsOf g) F') (FSound g N F') (ch = true → tot (headsOf g) F < tot (headsOf g) F') (ch = false → F' = F ∧ ∀ x ∈ g.take i, ∀ y, FSt g (· ∈ N) (fun x y => y ∈ F x) x.2 y → y ∈ F x.1))
        ?_ (fun _ i m σ _ => .inr q1) (fun _ i m σ u hI hu val hval Qz hQz => ?_) (fun _ m σ hI => ?_)
      · walk_at "stp"
        exact ⟨⟨rfl, .inr q1⟩, F, false, by walk_at "vlook", by walk_at "vlook", by walk_at "vlook", by walk_at "vlook", o2, hD, hS, fun h => (nomatch h), fun _ => ⟨rfl, fun _ h => by simp at h⟩⟩
      · obtain ⟨F', ch, v1, v2, v3, v4, o2, hD', hS', j1, j2⟩ := hI
        obtain ⟨r, hr, rfl⟩ := map_get hu
        obtain ⟨⟨hd, bd⟩, hx⟩ := get_same q2 hr
        obtain ⟨b, k1, k2⟩ := q3 i r _ hr hx
        have hmg : (hd, bd) ∈ g := List.mem_of_getElem? hx
        have hhd : hd ∈ headsOf g := (hmem hd).mpr ⟨bd, hmg⟩
        have hlen := hS'.len hg
        obtain ⟨f, d1, d2, d3⟩ := hD'
        obtain ⟨l, e1, e2⟩ := d2 hd hhd
        have e2 : σ l = some (.list ((F' hd).map V.str)) := e2
        have hD' : DictP (own σ) lf (headsOf g) F' := ⟨f, d1, d2, d3⟩
        refine asg_local ho (by rfl) hval ?_
        walk_at "stp"
        walk_at "stp"
        refine call_def I (by rfl) (M.fn hM.p 2 (by rfl)) ?_
        walk_at "run"
        walk_at "op"
        have hfs : own σ lf (.dict (headsOf g) f) := d1
        intro va vb ha hb
        refine sub_dict ha hb (.inl d1) e1 ?_
        walk_at "stp"
        walk_at "stp"
        refine call_def I (by rfl) (M.fn hM.p 5 (by rfl)) ?_
        walk_at "run"
        walk_at "op"
        walk_at "run"
        refine ⟨_, _, _, spec_first_of_string M hM (headsOf g) F' N bd (univ g) b lf ln (by simp [univ]; omega) (univ_body hmg) hS'.inU hlen, by decide, ⟨.inr k2, DictP.mono _ _ (fun a o h => .inl h) hD', .inl o2⟩, fun v σ₂ hext hR => ?_⟩
        obtain ⟨t, r1, u1, bb, rfl, t1, t2, hCu, hu1, _⟩ := hR
        have t1 : σ₂ t = some (.tuple [.ref r1, .bool bb]) := t1
        have t2 : σ₂ r1 = some (.list (u1.map V.str)) := t2
        walk_at "run"
        walk_at "op"
        walk_at "run"
        refine ⟨_, _, _, spec_merged M hM (F' hd) u1 l r1 ?_, by decide, ⟨.inl (hext _ _ e2), .inl t2⟩, fun v σ₃ hext3 hR => ?_⟩
        · have h1 := hlen hd hhd
          have h2 := hCu.le (U := univ g) fun y hy => FSk_in (univ_body hmg) hS'.inU ((hu1 y).mp hy)
          simp only [univ, List.length_cons] at h2
          omega
        obtain ⟨lg, gr, rfl, g1, hCg, hgr⟩ := hR
        have g1 : σ₃ lg = some (.list (gr.map V.str)) := g1
        have hup : ∀ a o, σ a = some o → σ₃ a = some o := fun a o h => hext3 _ _ (hext _ _ h)
        have d1' := hup _ _ d1
        have e2' := hup _ _ e2
        have o2' := hup _ _ o2
        have hgr' : ∀ y, y ∈ gr ↔ y ∈ F' hd ∨ FSt g (· ∈ N) (fun x y => y ∈ F' x) bd y := fun y => by rw [hgr, hu1, FSk_iff]
        walk_at "run"
        walk_at "op"
        intro va vb ha hb
        refine sub_dict ha hb (.inl d1') e1 ?_
        intro va vb ha hb
        refine op_ne_strs I.room.units ha hb (.inl g1) (.inl e2') ⟨_, rfl, fun hne => ?_, fun hne => ?_⟩
        · have hne : gr ≠ F' hd := by simpa using hne
          walk_at "stp"
          refine assign_sub ?_ (by rfl)
          walk_at "run"
          walk_at "op"
          intro val oval ival w1 w2 w3
          refine set_dict w2 w3 w1 d1' (by omega) ?_
          walk_at "run"
          have hset := DictP.set (σ := σ₃) (k := hd) (F := F') d1' (fun k hk => let ⟨l', q1, q2⟩ := d2 k hk; ⟨l', q1, hup _ _ q2⟩) d3 g1
          rw [addKey_old hhd] at hset ⊢
          have hln : ln ≠ lf := fun q => by rw [q, d1'] at o2'; cases o2'
          have hgrow : ∀ y, y ∈ F' hd → y ∈ gr := fun y hy => (hgr' y).mpr (.inl hy)
          have hlt := (hS'.canon hd hhd).grows hCg hgrow hne
          refine ⟨fun x => if x = hd then gr else F' x, true, by walk_at "vlook", by walk_at "vlook", by walk_at "vlook", by walk_at "vlook", upd_ne hln o2', hset, ⟨fun k hk => ?_, fun k hk y hy => ?_, fun A hA k hk y hy => ?_⟩, fun _ => ?_, fun h => (nomatch h)⟩
          · by_cases e : k = hd
            · simp only [e, if_true]; exact hCg
            · simp only [e, if_false]; exact hS'.canon k hk
          · by_cases e : k = hd
            · simp only [e, if_true] at hy
              rcases (hgr y).mp hy with q | q
              · exact hS'.inU hd hhd y q
              · exact FSk_in (univ_body hmg) hS'.inU ((hu1 y).mp q)
            · simp only [e, if_false] at hy; exact hS'.inU k hk y hy
          · by_cases e : k = hd
            · simp only [e, if_true] at hy ⊢
              rcases (hgr' y).mp hy with q | q
              · exact hS'.least A hA hd hhd y q
              · exact hA hd bd y hmg (FSt_mono (fun x hx y hy => hS'.least A hA x ((hmem x).mpr hx) y hy) q)
            · simp only [e, if_false] at hy; exact hS'.least A hA k hk y hy
          · have hl2 : tot (headsOf g) F' < tot (headsOf g) (fun x => if x = hd then gr else F' x) := tot_lt (fun k hk => by
              by_cases e : k = hd
              · simp only [e, if_true]; omega
              · simp only [e, if_false]; omega) ⟨hd, hhd, by simp only [if_true]; exact hlt⟩
            cases ch with
            | true => exact Nat.lt_trans (j1 rfl) hl2
            | false => rw [← (j2 rfl).1]; exact hl2
        · have hne : gr = F' hd := by simpa using hne
          walk_at "run"
          refine ⟨F', ch, by walk_at "vlook", by walk_at "vlook", by walk_at "vlook", by walk_at "vlook", o2', DictP.mono _ _ (fun a o h => hup a o h) hD', hS', j1, fun h => ⟨(j2 h).1, fun x hx' y hy => ?_⟩⟩
          rw [take_succ_get hx] at hx'
          rcases List.mem_append.mp hx' with q | q
          · exact (j2 h).2 x q y hy
          · obtain rfl := List.mem_singleton.mp q
            rw [← (j2 h).1] at hy ⊢
            show y ∈ F' hd
            rw [← hne]
            exact (hgr' y).mpr (.inr hy)
      · obtain ⟨F', ch, v1, v2, v3, v4, o2, hD', hS', j1, j2⟩ := hI
        have hlen : (Src.list ag (rs.map V.ref)).items.length = g.length := by simp [Src.items, q2]
        rw [hlen, List.take_length] at j2
        walk_at "run"
        have l1 := tot_le (hS'.len hg)
        refine ⟨if ch then (headsOf g).length * 29 - tot (headsOf g) F' + 1 else 0, ?_, F', ch, v1, v2, v3, v4, o2, hD', hS', fun h => by simp [h], fun h x r y hr hb => ?_⟩
        · cases ch with
          | true => have := j1 rfl; simp; omega
          | false => simp; omega
        · obtain ⟨e, hcl⟩ := j2 h
          rw [e] at hb ⊢
          exact hcl (x, r) hr y hb
    · subst hch
      walk_at "run"
      exact ⟨_, rfl, lf, F, rfl, hD, N, hN, hS, hk2 rfl⟩

/-- what may follow, so far: sound -/
structure WOk (g : G) (N : List Str) (F : Str → List Str) (st : Str) (A : Str → Str → Prop) : Prop where
  w0 : A st dol
  w1 : ∀ h a x b y, (h, a ++ x :: b) ∈ g → IsHead g x → FSt g (· ∈ N) (fun x y => y ∈ F x) b y → A x y
  w2 : ∀ h a x b y, (h, a ++ x :: b) ∈ g → IsHead g x → Van g (· ∈ N) b → A h y → A x y
structure WSound (g : G) (N : List Str) (F : Str → List Str) (st : Str) (W : Str → List Str) : Prop where
  canon : ∀ k ∈ headsOf g, Canon (W k)
  inU : ∀ k ∈ headsOf g, ∀ y ∈ W k, y ∈ univ g
  least : ∀ A : Str → Str → Prop, WOk g N F st A → ∀ k ∈ headsOf g, ∀ y ∈ W k, A k y
theorem WSound.len {g : G} {N : List Str} {F W : Str → List Str} {st : Str} (h : WSound g N F st W) (hg : (symsOf g).length ≤ 28) : ∀ k ∈ headsOf g, (W k).length ≤ 29 := fun k hk => by
  have := (h.canon k hk).le (h.inU k hk)
  simp only [univ, List.length_cons] at this
  omega
def Sat (g : G) (N : List Str) (F W : Str → List Str) (x : Str × List Str) (p : Nat) : Prop :=
  ∀ z, x.2[p]? = some z → IsHead g z → (∀ y, FSt g (· ∈ N) (fun x y => y ∈ F x) (x.2.drop (p + 1)) y → y ∈ W z) ∧ (Van g (· ∈ N) (x.2.drop (p + 1)) → ∀ y ∈ W x.1, y ∈ W z)
def FollowsOf (g : G) (st : Str) (W : Str → List Str) : Prop := ∃ N F, NullOf g N ∧ FSound g N F ∧ FClosed g N F ∧ WSound g N F st W ∧ WOk g N F st (fun x y => y ∈ W x)
theorem wok_of_sat {g : G} {N : List Str} {F W : Str → List Str} {st : Str} (h0 : dol ∈ W st) (h : ∀ x ∈ g, ∀ p, Sat g N F W x p) : WOk g N F st (fun x y => y ∈ W x) := by
  have at_ : ∀ (a : List Str) x b, (a ++ x :: b)[a.length]? = some x ∧ (a ++ x :: b).drop (a.length + 1) = b := fun a x b => by
    constructor
    · simp
    · rw [← List.drop_drop]; simp
  refine ⟨h0, fun h' a x b y hm hx hy => ?_, fun h' a x b y hm hx hv hy => ?_⟩
  · have := h _ hm a.length x (at_ a x b).1 hx
    simp only [(at_ a x b).2] at this
    exact this.1 y hy
  · have := h _ hm a.length x (at_ a x b).1 hx
    simp only [(at_ a x b).2] at this
    exact this.2 hv y hy

theorem spec_follow_sets (M : Mod) (hM : Ok M) (st : Str) (b0 : List Str) (g' : G) (ag : Addr) (hg : (symsOf ((st, b0) :: g')).length ≤ 28) :
    Spec M 5 (Str.ofString "follow_sets") [.ref ag] (fun P => GramP P ag ((st, b0) :: g')) (fun v P => ∃ a W, v = .ref a ∧ DictP P a (headsOf ((st, b0) :: g')) W ∧ FollowsOf ((st, b0) :: g') st W) := by
  generalize hge : (st, b0) :: g' = g at hg ⊢
  have hg0 : g[0]? = some (st, b0) := by rw [← hge]; rfl
  have hgl : g.length ≤ 28 := Nat.le_trans (syms_len g) hg
  have hgb : ∀ x ∈ g, x.2.length ≤ 1000 := fun x hx => by have := body_len hx; omega
  have hhl := headsOf_len g
  obtain ⟨hnd, hmem⟩ := headsOf_spec g
  have hsth : st ∈ headsOf g := (hmem st).mpr ⟨b0, List.mem_of_getElem? hg0⟩
  refine mkSpec hM.p 7 [Str.ofString "g"] (by rfl) (by decide) (by decide) (by decide) (fun vals pm code doc h => by obtain ⟨a, rfl, _⟩ := one_val h; rfl) (by rfl) (by rfl) (by rfl) ?_ ?_ fun c L fa code I hpre Qf hQf => ?_
  · exact GramP.mono
  · rintro v A B h ⟨a, F, e, q, k⟩; exact ⟨a, F, e, DictP.mono A B h q, k⟩
  have ho := I.env
  dsimp only [vars0] at ho I ⊢
  have hpre' := hpre
  obtain ⟨rs, q1, q2, q3⟩ := hpre
  have hgram : ∀ σ, GramP (Sees c σ) ag g := fun σ => GramP.mono _ _ (fun a o h => .inr h) hpre'
  walk_at "stp"
  walk_at "stp"
  refine call_def I (by rfl) (M.fn hM.p 4 (by rfl)) ?_
  walk_at "run"
  refine ⟨_, _, _, spec_nullable_heads M hM g ag (by omega) hgb, by decide, hgram _, fun v σ₁ _ hR => ?_⟩
  obtain ⟨ln, N, rfl, oN, hN⟩ := hR
  have oN : σ₁ ln = some (.list (N.map V.str)) := oN
  walk_at "stp"
  walk_at "stp"
  refine call_def I (by rfl) (M.fn hM.p 6 (by rfl)) ?_
  walk_at "run"
  refine ⟨_, _, _, spec_first_sets M hM g ag hg, by decide, hgram _, fun v σ₂ hx2 hR => ?_⟩
  obtain ⟨lf, F, rfl, hDF, N', hN', hFS, hFC⟩ := hR
  have eN : ∀ x, x ∈ N' ↔ x ∈ N := fun x => ⟨fun h => hN'.1.least _ hN.2 x h, fun h => hN.1.least _ hN'.2 x h⟩
  have eN' : (fun x => x ∈ N') = (fun x => x ∈ N) := funext fun x => propext (eN x)
  have hFS : FSound g N F := ⟨hFS.canon, hFS.inU, fun A hA => hFS.least A (fun h r y hm hy => hA h r y hm (by rw [← eN']; exact hy))⟩
  have hFC : FClosed g N F := fun h r y hm hy => hFC h r y hm (by rw [eN']; exact hy)
  have oN := hx2 _ _ oN
  walk_at "stp"
  walk_at "stp"
  refine new_dict hM I fun lw hlw => ?_
  have hlfw : lf ≠ lw := let ⟨f, d1, _⟩ := hDF; ne_of_new hlw d1
  walk_at "stp"
  refine for_ I.room.1 (fun v => .list v.addr ((headsOf g).map V.str)) (fun v i m σ => And8 (m (Str.ofString "g") = some (.ref ag)) (m (Str.ofString "nullables") = some (.ref ln)) (m (Str.ofString "firsts") = some (.ref lf)) (m (Str.ofString "follows") = some (.ref lw)) (σ v.addr = some (.list ((headsOf g).map V.str))) (σ ln = some (.list (N.map V.str))) (DictP (own σ) lf (headsOf g) F) (DictP (own σ) lw ((headsOf g).take i) (fun _ => [])))
      ?_ (fun _ i m σ h => .inl h.h5) (fun v i m σ u hI hu val hval Qz hQz => ?_) (fun v m σ hI => ?_)
  · refine call_def I (by rfl) (M.fn hM.p 1 (by rfl)) ?_
    walk_at "run"
    refine ⟨_, _, _, spec_heads_of M hM g ag (by omega), by decide, hgram _, fun v σ₃ hext hR => ?_⟩
    obtain ⟨lh, rfl, oh⟩ := hR
    exact ⟨⟨rfl, .inl oh⟩, by walk_at "vlook", by walk_at "vlook", by walk_at "vlook", by walk_at "vlook", oh, hext _ _ (upd_new hlw oN), DictP.mono _ _ (fun a o h => hext a o (upd_new hlw h)) hDF, _, hext _ _ upd_self, fun k hk => by simp at hk, fun k _ => rfl⟩
  · obtain ⟨v1, v2, v3, v4, o1, o2, hDF', f, d1, d2, d3⟩ := hI
    obtain ⟨x, hx, rfl⟩ := map_get hu
    refine asg_local ho (by rfl) hval ?_
    walk_at "stp"
    refine assign_sub ?_ (by rfl)
    walk_at "run"
    refine ⟨by simp, fun l hl => ?_⟩
    walk_at "run"
    intro val oval ival e1 e2 e3
    have hxn : x ∉ (headsOf g).take i := fun hm => by
      have h1 := hnd
      rw [← List.take_append_drop i (headsOf g), drop_get hx, List.nodup_append] at h1
      exact h1.2.2 x hm x List.mem_cons_self rfl
    refine set_dict e2 e3 e1 (upd_new hl d1) (by have : ((headsOf g).take i).length ≤ (headsOf g).length := by rw [List.length_take]; exact Nat.min_le_right _ _
                                                 omega) ?_
    walk_at "run"
    obtain ⟨ff, k1, k2, k3⟩ := hDF'
    have k1 : σ lf = some (.dict (headsOf g) ff) := k1
    refine ⟨by walk_at "vlook", by walk_at "vlook", by walk_at "vlook", by walk_at "vlook", upd_ne (fun q => by rw [q, d1] at o1; cases o1) (upd_new hl o1), upd_ne (fun q => by rw [q, d1] at o2; cases o2) (upd_new hl o2), ?_, ?_⟩
    · refine ⟨ff, upd_ne hlfw (upd_new hl k1), fun k hk => ?_, k3⟩
      obtain ⟨l', w1, w2⟩ := k2 k hk
      have w2 : σ l' = some (.list ((F k).map V.str)) := w2
      exact ⟨l', w1, upd_ne (fun q => by rw [q, d1] at w2; cases w2) (upd_new hl w2)⟩
    · have := DictP.set (σ := upd σ l (.list [])) (lf := lw) (k := x) (l := l) (u := []) (F := fun _ => []) (upd_new hl d1) (fun k hk => let ⟨l', q1, q2⟩ := d2 k hk; ⟨l', q1, upd_new hl q2⟩) d3 upd_self
      rw [addKey_new hxn] at this ⊢
      rw [take_succ_get hx]
      simpa using this
  · obtain ⟨v1, v2, v3, v4, o1, o2, hDF', hDW⟩ := hI
    have hlen : (Src.list v.addr ((headsOf g).map V.str)).items.length = (headsOf g).length := by simp [Src.items]
    rw [hlen, List.take_length] at hDW
    obtain ⟨f, d1, d2, d3⟩ := hDW
    have d1 : σ lw = some (.dict (headsOf g) f) := d1
    obtain ⟨ff, k1, k2, k3⟩ := hDF'
    have k1 : σ lf = some (.dict (headsOf g) ff) := k1
    -- follows[g[0][0]] = ["$"]
    obtain ⟨r0, hr0⟩ := get_same q2.symm hg0
    obtain ⟨bb0, w1, w2⟩ := q3 0 r0 _ hr0 hg0
    have hrs0 : (rs.map V.ref)[(0 : Int).toNat]? = some (.ref r0) := by
      show (rs.map V.ref)[0]? = _
      rw [List.getElem?_map, hr0]; rfl
    walk_at "stp"
    refine assign_sub ?_ (by rfl)
    walk_at "run"
    refine ⟨by simp, fun l hl => ?_⟩
    walk_at "run"
    walk_at "op"
    walk_at "run"
    walk_at "op"
    intro val oval ival e1 e2 e3
    refine set_dict e2 e3 e1 (upd_new hl d1) (by omega) ?_
    rw [addKey_old hsth]
    have hW0 : DictP (own (upd (upd σ l (.list [V.str dol])) lw (.dict (headsOf g) (upd f st (.ref l))))) lw (headsOf g) (fun x => if x = st then [dol] else []) := by
      have := DictP.set (σ := upd σ l (.list [V.str dol])) (lf := lw) (k := st) (l := l) (u := [dol]) (F := fun _ => []) (upd_new hl d1) (fun k hk => let ⟨l', q1, q2⟩ := d2 k hk; ⟨l', q1, upd_new hl q2⟩) d3 upd_self
      rwa [addKey_old hsth] at this
    have hF0 : DictP (own (upd (upd σ l (.list [V.str dol])) lw (.dict (headsOf g) (upd f st (.ref l))))) lf (headsOf g) F := by
      refine ⟨ff, upd_ne hlfw (upd_new hl k1), fun k hk => ?_, k3⟩
      obtain ⟨l', w1, w2⟩ := k2 k hk
      have w2 : σ l' = some (.list ((F k).map V.str)) := w2
      exact ⟨l', w1, upd_ne (fun q => by rw [q, d1] at w2; cases w2) (upd_new hl w2)⟩
    have o2' : (upd (upd σ l (.list [V.str dol])) lw (.dict (headsOf g) (upd f st (.ref l)))) ln = some (.list (N.map V.str)) := upd_ne (fun q => by rw [q, d1] at o2; cases o2) (upd_new hl o2)
    have hWS0 : WSound g N F st (fun x => if x = st then [dol] else []) := by
      refine ⟨fun k _ => ?_, fun k _ y hy => ?_, fun A hA k _ y hy => ?_⟩
      · by_cases e : k = st
        · simp only [e, if_true]; exact ⟨by simp, by rfl⟩
        · simp only [e, if_false]; exact Canon.nil
      · by_cases e : k = st
        · simp only [e, if_true, List.mem_singleton] at hy; rw [hy]; exact List.mem_cons_self
        · simp only [e, if_false] at hy; cases hy
      · by_cases e : k = st
        · simp only [e, if_true, List.mem_singleton] at hy; rw [hy, e]; exact hA.w0
        · simp only [e, if_false] at hy; cases hy
    clear hl e1 e2 e3
    generalize upd (upd σ l (.list [V.str dol])) lw (.dict (headsOf g) (upd f st (.ref l))) = σ0 at *
    walk_at "stp"
    walk_at "stp"
    walk_at "stp"
    walk_at "stp"
    refine while_ (fun k m σ => ∃ W ch, And12 (m (Str.ofString "g") = some (.ref ag)) (m (Str.ofString "nullables") = some (.ref ln)) (m (Str.ofString "firsts") = some (.ref lf)) (m (Str.ofString "follows") = some (.ref lw)) (m (Str.ofString "changed") = some (.bool ch)) (σ ln = some (.list (N.map V.str))) (DictP (own σ) lf (headsOf g) F) (DictP (own σ) lw (headsOf g) W) (WSound g N F st W) (dol ∈ W st) (ch = true → k = (headsOf g).length * 29 - tot (headsOf g) W + 1) (ch = false → ∀ x ∈ g, ∀ p, Sat g N F W x p)) _
      ⟨_, true, by walk_at "vlook", by walk_at "vlook", by walk_at "vlook", by walk_at "vlook", by walk_at "vlook", o2', hF0, hW0, hWS0, by simp, fun _ => rfl, fun h => (nomatch h)⟩ (fun k m σ hI Qz hQz => ?_)
    clear v1 v2 v3 v4 o1 o2 o2' hF0 hW0 hWS0 d1 d2 d3 k1 k2 k3
    obtain ⟨W, ch, v1, v2, v3, v4, v5, o2, hDF, hDW, hS, hd0, hk1, hk2⟩ := hI
    walk_at "run"
    refine ⟨ch, rfl, fun hch => ?_, fun hch => ?_⟩
    · subst hch
      have hk1 := hk1 rfl
      walk_at "stp"
      walk_at "stp"
      walk_at "stp"
      walk_at "stp"
      refine for_ I.room.1 (fun _ => .list ag (rs.map V.ref)) (fun _ i m σ => ∃ W' ch, And12 (m (Str.ofString "g") = some (.ref ag)) (m (Str.ofString "nullables") = some (.ref ln)) (m (Str.ofString "firsts") = some (.ref lf)) (m (Str.ofString "follows") = some (.ref lw)) (m (Str.ofString "changed") = some (.bool ch)) (σ ln = some (.list (N.map V.str))) (DictP (own σ) lf (headsOf g) F) (DictP (own σ) lw (headsOf g) W') (WSound g N F st W') (dol ∈ W' st) (ch = true → tot (headsOf g) W < tot (headsOf g) W') (ch = false → W' = W ∧ ∀ x ∈ g.take i, ∀ p, Sat g N F W x p))
        ?_ (fun _ i m σ _ => .inr q1) (fun _ i m σ u hI hu val hval Qz hQz => ?_) (fun _ m σ hI => ?_)
      · walk_at "stp"
        exact ⟨⟨rfl, .inr q1⟩, W, false, by walk_at "vlook", by walk_at "vlook", by walk_at "vlook", by walk_at "vlook", by walk_at "vlook", o2, hDF, hDW, hS, hd0, fun h => (nomatch h), fun _ => ⟨rfl, fun _ h => by simp at h⟩⟩
      · obtain ⟨W', ch, v1, v2, v3, v4, v5, o2, hDF, hDW', hS', hd0', j1, j2⟩ := hI
        obtain ⟨r, hr, rfl⟩ := map_get hu
        obtain ⟨⟨hd, bd⟩, hx⟩ := get_same q2 hr
        obtain ⟨b, k1, k2⟩ := q3 i r _ hr hx
        have hmg : (hd, bd) ∈ g := List.mem_of_getElem? hx
        have hhd : hd ∈ headsOf g := (hmem hd).mpr ⟨bd, hmg⟩
        have hbl : bd.length + 1 ≤ (symsOf g).length := body_len hmg
        refine asg_local ho (by rfl) hval ?_
        walk_at "stp"
        -- the inner loop, over the places of the body
        refine for_ I.room.1 (fun _ => .range bd.length) (fun _ p m σ => ∃ W' ch, And13 (m (Str.ofString "g") = some (.ref ag)) (m (Str.ofString "nullables") = some (.ref ln)) (m (Str.ofString "firsts") = some (.ref lf)) (m (Str.ofString "follows") = some (.ref lw)) (m (Str.ofString "rule") = some (.ref r)) (m (Str.ofString "changed") = some (.bool ch)) (σ ln = some (.list (N.map V.str))) (DictP (own σ) lf (headsOf g) F) (DictP (own σ) lw (headsOf g) W') (WSound g N F st W') (dol ∈ W' st) (ch = true → tot (headsOf g) W < tot (headsOf g) W') (ch = false → W' = W ∧ (∀ x ∈ g.take i, ∀ p, Sat g N F W x p) ∧ ∀ p', p' < p → Sat g N F W (hd, bd) p'))
          ?_ (fun _ p m σ _ => trivial) (fun _ p m σ u hI hu val hval Qz hQz => ?_) (fun _ m σ hI => ?_)
        · refine call_range hM I (by rfl) ?_
          walk_at "stp"
          refine call_len hM I (by rfl) ?_
          walk_at "run"
          walk_at "op"
          walk_at "run"
          refine ⟨b, bd.map V.str, rfl, .inl (.inr k2), by simp; omega, ?_⟩
          walk_at "run"
          refine ⟨_, rfl, fun rr hrr => ⟨⟨rr, rfl, .inl ?_, by omega⟩, W', ch, by walk_at "vlook", by walk_at "vlook", by walk_at "vlook", by walk_at "vlook", by walk_at "vlook", by walk_at "vlook", upd_new hrr o2, DictP.mono _ _ (own_new hrr) hDF, DictP.mono _ _ (own_new hrr) hDW', hS', hd0', j1, fun h => ⟨(j2 h).1, (j2 h).2, fun _ h => absurd h (Nat.not_lt_zero _)⟩⟩⟩
          rw [upd_self, List.length_map]
        · clear v1 v2 v3 v4 v5 o2 hDF hDW' hS' hd0' j1 j2
          obtain ⟨W', ch, v1, v2, v3, v4, v6, v5, o2, hDF, hDW', hS', hd0', j1, j2⟩ := hI
          obtain ⟨hp, rfl⟩ : p < bd.length ∧ V.int (p : Nat) = u := by
            obtain ⟨z, hz, rfl⟩ := map_get hu
            obtain ⟨h1, h2⟩ := List.getElem?_eq_some_iff.mp hz
            simp at h1 h2
            exact ⟨h1, by rw [← h2]⟩
          obtain ⟨sy, hsy⟩ : ∃ sy, bd[p]? = some sy := ⟨bd[p], by simp [hp]⟩
          have hsyv : (bd.map V.str)[((p : Nat) : Int).toNat]? = some (.str sy) := by
            rw [Int.toNat_natCast, List.getElem?_map, hsy]; rfl
          have hp63 : ((p : Nat) : Int) < 2 ^ 63 := by omega
          have hp0 : (0 : Int) ≤ ((p : Nat) : Int) := by omega
          obtain ⟨f, d1, d2, d3⟩ := hDW'
          have d1 : σ lw = some (.dict (headsOf g) f) := d1
          have hDW' : DictP (own σ) lw (headsOf g) W' := ⟨f, d1, d2, d3⟩
          refine asg_local ho (by rfl) hval ?_
          walk_at "run"
          walk_at "op"
          walk_at "run"
          intro va vb ha hb
          refine sub_list ha hb (.inr k2) hp0 hp63 hsyv ?_
          walk_at "run"
          walk_at "op"
          refine ⟨_, rfl, fun hb => ?_, fun hb => ?_⟩
          · have hsh : sy ∈ headsOf g := Classical.byContradiction fun q => by rw [d3 sy q] at hb; cases hb
            obtain ⟨lsy, e1, e2⟩ := d2 sy hsh
            have e2 : σ lsy = some (.list ((W' sy).map V.str)) := e2
            obtain ⟨lhd, e3, e4⟩ := d2 hd hhd
            have e4 : σ lhd = some (.list ((W' hd).map V.str)) := e4
            have hlenW := hS'.len hg
            have hbdU : ∀ y ∈ bd.drop (p + 1), y ∈ univ g := fun y hy => univ_body hmg y (List.mem_of_mem_drop hy)
            walk_at "stp"
            refine assign_pair ho I.room.1 (by rfl) (by rfl) ?_ (by rfl) (by rfl)
            refine call_def I (by rfl) (M.fn hM.p 5 (by rfl)) ?_
            walk_at "run"
            walk_at "op"
            walk_at "run"
            walk_at "op"
            refine ⟨b, _, p + 1, rfl, by simp, .inr k2, by simp; omega, fun lsl hlsl => ?_⟩
            walk_at "run"
            refine ⟨_, _, _, spec_first_of_string M hM (headsOf g) F N (bd.drop (p + 1)) (univ g) lsl lf ln (by simp [univ]; omega) hbdU hFS.inU (hFS.len hg), by decide, ⟨.inl (by rw [upd_self, List.map_drop]), DictP.mono _ _ (fun a o h => .inl (upd_new hlsl h)) hDF, .inl (upd_new hlsl o2)⟩, fun v σ₂ hext hR => ?_⟩
            obtain ⟨t, r1, u1, bb, rfl, t1, t2, hCu, hu1, hbb⟩ := hR
            have t1 : σ₂ t = some (.tuple [.ref r1, .bool bb]) := t1
            have t2 : σ₂ r1 = some (.list (u1.map V.str)) := t2
            have hup : ∀ a o, σ a = some o → σ₂ a = some o := fun a o h => hext _ _ (upd_new hlsl h)
            refine ⟨t, _, _, rfl, .inl t1, ?_⟩
            have hu1U : ∀ y ∈ u1, y ∈ univ g := fun y hy => FSk_in hbdU hFS.inU ((hu1 y).mp hy)
            have hu1l := hCu.le hu1U
            simp only [univ, List.length_cons] at hu1l
            have d1' := hup _ _ d1
            walk_at "run"
            refine call_def I (by rfl) (M.fn hM.p 2 (by rfl)) ?_
            walk_at "run"
            intro va vb ha hb
            refine sub_dict ha hb (.inl d1') e1 ?_
            walk_at "run"
            have hl1 := hlenW sy hsh
            have hl2 := hlenW hd hhd
            refine ⟨_, _, _, spec_merged M hM (W' sy) u1 lsy r1 (by omega), by decide, ⟨.inl (hup _ _ e2), .inl t2⟩, fun v σ₃ hext3 hR => ?_⟩
            obtain ⟨lg1, gr1, rfl, g1, hCg1, hgr1⟩ := hR
            have g1 : σ₃ lg1 = some (.list (gr1.map V.str)) := g1
            have hgr1U : ∀ y ∈ gr1, y ∈ univ g := fun y hy => ((hgr1 y).mp hy).elim (fun q => hS'.inU sy hsh y q) (hu1U y)
            have hgr1l := hCg1.le hgr1U
            simp only [univ, List.length_cons] at hgr1l
            have hup3 : ∀ a o, σ a = some o → σ₃ a = some o := fun a o h => hext3 _ _ (hup _ _ h)
            walk_at "stp"
            refine X.mono (Q₁ := fun f m₁ σ₄ => And10 (f = .next) (∀ a o, σ a = some o → σ₄ a = some o) (m₁ (Str.ofString "g") = some (.ref ag)) (m₁ (Str.ofString "nullables") = some (.ref ln)) (m₁ (Str.ofString "firsts") = some (.ref lf)) (m₁ (Str.ofString "follows") = some (.ref lw)) (m₁ (Str.ofString "rule") = some (.ref r)) (m₁ (Str.ofString "changed") = some (.bool ch)) (m₁ (Str.ofString "symbol") = some (.str sy)) (∃ lg gr, And5 (m₁ (Str.ofString "grown") = some (.ref lg)) (σ₄ lg = some (.list (gr.map V.str))) (Canon gr) (∀ y ∈ gr, y ∈ univ g) (∀ y, y ∈ gr ↔ y ∈ W' sy ∨ FSt g (· ∈ N) (fun x y => y ∈ F x) (bd.drop (p + 1)) y ∨ (Van g (· ∈ N) (bd.drop (p + 1)) ∧ y ∈ W' hd)))) ?_ ?_
            · walk_at "stp"
              walk_at "stp"
              walk_at "stp"
              refine ⟨bb, rfl, fun hbt => ?_, fun hbt => ?_⟩
              · have hv := hbb.mp hbt
                walk_at "stp"
                walk_at "stp"
                refine call_def I (by rfl) (M.fn hM.p 2 (by rfl)) ?_
                walk_at "run"
                walk_at "op"
                intro va vb ha hb
                refine sub_dict ha hb (.inl (hext3 _ _ d1')) e3 ?_
                walk_at "run"
                refine ⟨_, _, _, spec_merged M hM gr1 (W' hd) lg1 lhd (by omega), by decide, ⟨.inl g1, .inl (hup3 _ _ e4)⟩, fun v σ₄ hext4 hR => ?_⟩
                obtain ⟨lg2, gr2, rfl, g2, hCg2, hgr2⟩ := hR
                have g2 : σ₄ lg2 = some (.list (gr2.map V.str)) := g2
                walk_at "run"
                refine ⟨rfl, fun a o h => hext4 _ _ (hup3 a o h), by walk_at "vlook", by walk_at "vlook", by walk_at "vlook", by walk_at "vlook", by walk_at "vlook", by walk_at "vlook", by walk_at "vlook", lg2, gr2, by walk_at "vlook", g2, hCg2, fun y hy => ((hgr2 y).mp hy).elim (hgr1U y) (hS'.inU hd hhd y), fun y => ?_⟩
                rw [hgr2, hgr1, hu1, FSk_iff, ← Vk_iff]
                constructor
                · rintro ((q | q) | q)
                  · exact .inl q
                  · exact .inr (.inl q)
                  · exact .inr (.inr ⟨hv, q⟩)
                · rintro (q | q | ⟨_, q⟩)
                  · exact .inl (.inl q)
                  · exact .inl (.inr q)
                  · exact .inr q
              · have hv : ¬ Vk (headsOf g) N (bd.drop (p + 1)) := fun h => by rw [hbb.mpr h] at hbt; cases hbt
                walk_at "run"
                refine ⟨rfl, hup3, by walk_at "vlook", by walk_at "vlook", by walk_at "vlook", by walk_at "vlook", by walk_at "vlook", by walk_at "vlook", by walk_at "vlook", lg1, gr1, by walk_at "vlook", g1, hCg1, hgr1U, fun y => ?_⟩
                rw [hgr1, hu1, FSk_iff, ← Vk_iff]
                constructor
                · rintro (q | q)
                  · exact .inl q
                  · exact .inr (.inl q)
                · rintro (q | q | ⟨q, _⟩)
                  · exact .inl q
                  · exact .inr q
                  · exact absurd q hv
            · rintro fl m₁ σ₄ ⟨rfl, hup4, v1, v2, v3, v4, v6, v5, v7, lg, gr, v8, g2, hCg, hgrU, hgr⟩
              have d1'' := hup4 _ _ d1
              dsimp only
              walk_at "run"
              intro va vb ha hb
              refine sub_dict ha hb (.inl d1'') e1 ?_
              intro va vb ha hb
              refine op_ne_strs I.room.units ha hb (.inl g2) (.inl (hup4 _ _ e2)) ⟨_, rfl, fun hne => ?_, fun hne => ?_⟩
              · have hne : gr ≠ W' sy := by simpa using hne
                walk_at "stp"
                refine assign_sub ?_ (by rfl)
                walk_at "run"
                intro val oval ival w1 w2 w3
                refine set_dict w2 w3 w1 d1'' (by omega) ?_
                walk_at "run"
                have hset := DictP.set (σ := σ₄) (k := sy) (F := W') d1'' (fun k hk => let ⟨l', q1, q2⟩ := d2 k hk; ⟨l', q1, hup4 _ _ q2⟩) d3 g2
                rw [addKey_old hsh] at hset ⊢
                have hln : ln ≠ lw := fun q => by rw [q, d1] at o2; cases o2
                have hgrow : ∀ y, y ∈ W' sy → y ∈ gr := fun y hy => (hgr y).mpr (.inl hy)
                have hlt := (hS'.canon sy hsh).grows hCg hgrow hne
                have hDF2 : DictP (own (upd σ₄ lw (.dict (headsOf g) (upd f sy (.ref lg))))) lf (headsOf g) F := by
                  obtain ⟨ff, k1, k2, k3⟩ := hDF
                  have k1 : σ lf = some (.dict (headsOf g) ff) := k1
                  refine ⟨ff, upd_ne hlfw (hup4 _ _ k1), fun k hk => ?_, k3⟩
                  obtain ⟨l', w1, w2⟩ := k2 k hk
                  have w2 : σ l' = some (.list ((F k).map V.str)) := w2
                  exact ⟨l', w1, upd_ne (fun q => by rw [q, d1] at w2; cases w2) (hup4 _ _ w2)⟩
                refine ⟨fun x => if x = sy then gr else W' x, true, by walk_at "vlook", by walk_at "vlook", by walk_at "vlook", by walk_at "vlook", by walk_at "vlook", by walk_at "vlook", upd_ne hln (hup4 _ _ o2), hDF2, hset, ⟨fun k hk => ?_, fun k hk y hy => ?_, fun A hA k hk y hy => ?_⟩, ?_, fun _ => ?_, fun h => (nomatch h)⟩
                · by_cases e : k = sy
                  · simp only [e, if_true]; exact hCg
                  · simp only [e, if_false]; exact hS'.canon k hk
                · by_cases e : k = sy
                  · simp only [e, if_true] at hy; exact hgrU y hy
                  · simp only [e, if_false] at hy; exact hS'.inU k hk y hy
                · by_cases e : k = sy
                  · simp only [e, if_true] at hy ⊢
                    have hbs : (hd, bd.take p ++ sy :: bd.drop (p + 1)) ∈ g := by rw [← drop_get hsy, List.take_append_drop]; exact hmg
                    rcases (hgr y).mp hy with q | q | ⟨q1, q2⟩
                    · exact hS'.least A hA sy hsh y q
                    · exact hA.w1 hd _ sy _ y hbs ((hmem sy).mp hsh) q
                    · exact hA.w2 hd _ sy _ y hbs ((hmem sy).mp hsh) q1 (hS'.least A hA hd hhd y q2)
                  · simp only [e, if_false] at hy; exact hS'.least A hA k hk y hy
                · by_cases e : st = sy
                  · simp only [e, if_true]; exact hgrow _ (e ▸ hd0')
                  · simp only [e, if_false]; exact hd0'
                · have hl2 : tot (headsOf g) W' < tot (headsOf g) (fun x => if x = sy then gr else W' x) := tot_lt (fun k hk => by
                    by_cases e : k = sy
                    · simp only [e, if_true]; omega
                    · simp only [e, if_false]; omega) ⟨sy, hsh, by simp only [if_true]; exact hlt⟩
                  cases ch with
                  | true => exact Nat.lt_trans (j1 rfl) hl2
                  | false => rw [← (j2 rfl).1]; exact hl2
              · have hne : gr = W' sy := by simpa using hne
                walk_at "run"
                refine ⟨W', ch, by walk_at "vlook", by walk_at "vlook", by walk_at "vlook", by walk_at "vlook", by walk_at "vlook", by walk_at "vlook", hup4 _ _ o2, DictP.mono _ _ (fun a o h => hup4 a o h) hDF, DictP.mono _ _ (fun a o h => hup4 a o h) hDW', hS', hd0', j1, fun h => ⟨(j2 h).1, (j2 h).2.1, fun p' hp' => ?_⟩⟩
                rcases Nat.lt_succ_iff_lt_or_eq.mp hp' with q | rfl
                · exact (j2 h).2.2 p' q
                · intro z hz hzh
                  have hz : bd[p']? = some z := hz
                  rw [hsy] at hz; cases hz
                  rw [← (j2 h).1]
                  refine ⟨fun y hy => ?_, fun hv y hy => ?_⟩
                  · rw [← hne]; exact (hgr y).mpr (.inr (.inl hy))
                  · rw [← hne]; exact (hgr y).mpr (.inr (.inr ⟨hv, hy⟩))
          · have hsh : sy ∉ headsOf g := fun q => by obtain ⟨l, e, _⟩ := d2 sy q; rw [e] at hb; cases hb
            walk_at "run"
            refine ⟨W', ch, by walk_at "vlook", by walk_at "vlook", by walk_at "vlook", by walk_at "vlook", by walk_at "vlook", by walk_at "vlook", o2, hDF, hDW', hS', hd0', j1, fun h => ⟨(j2 h).1, (j2 h).2.1, fun p' hp' => ?_⟩⟩
            rcases Nat.lt_succ_iff_lt_or_eq.mp hp' with q | rfl
            · exact (j2 h).2.2 p' q
            · intro z hz hzh
              rw [hsy] at hz; cases hz
              exact absurd ((hmem _).mpr hzh) hsh
        · obtain ⟨W', ch, v1, v2, v3, v4, v6, v5, o2, hDF, hDW', hS', hd0', j1, j2⟩ := hI
          have hlen : (Src.range bd.length).items.length = bd.length := by simp [Src.items]
          rw [hlen] at j2
          walk_at "run"
          refine ⟨W', ch, v1, v2, v3, v4, v5, o2, hDF, hDW', hS', hd0', j1, fun h => ⟨(j2 h).1, fun x hx' p => ?_⟩⟩
          rw [take_succ_get hx] at hx'
          rcases List.mem_append.mp hx' with q | q
          · exact (j2 h).2.1 x q p
          · rw [List.mem_singleton.mp q]
            by_cases hp : p < bd.length
            · exact (j2 h).2.2 p hp
            · intro z hz
              simp only at hz
              rw [List.getElem?_eq_none (by omega)] at hz; cases hz
      · obtain ⟨W', ch, v1, v2, v3, v4, v5, o2, hDF, hDW', hS', hd0', j1, j2⟩ := hI
        have hlen : (Src.list ag (rs.map V.ref)).items.length = g.length := by simp [Src.items, q2]
        rw [hlen, List.take_length] at j2
        walk_at "run"
        have l1 := tot_le (hS'.len hg)
        refine ⟨if ch then (headsOf g).length * 29 - tot (headsOf g) W' + 1 else 0, ?_, W', ch, v1, v2, v3, v4, v5, o2, hDF, hDW', hS', hd0', fun h => by simp [h], fun h x hx p => ?_⟩
        · cases ch with
          | true => have := j1 rfl; simp; omega
          | false => simp; omega
        · obtain ⟨e, hcl⟩ := j2 h
          rw [e]; exact hcl x hx p
    · subst hch
      walk_at "run"
      exact ⟨_, rfl, lw, W, rfl, hDW, N, F, hN, hFS, hFC, hS, wok_of_sat hd0 (hk2 rfl)⟩

structure Sets (g : G) (st : Str) (N : List Str) (F W : Str → List Str) : Prop where
  null : NullOf g N
  fs : FSound g N F
  fc : FClosed g N F
  ws : WSound g N F st W
  wok : WOk g N F st (fun x y => y ∈ W x)
/-- when a rule is to be chosen -/
def Pred (g : G) (N : List Str) (F W : Str → List Str) (x : Str × List Str) (y : Str) : Prop := Pr g (· ∈ N) (fun x y => y ∈ F x) (fun x y => y ∈ W x) x.1 x.2 y

theorem null_eq {g : G} {N N' : List Str} (h : NullOf g N) (h' : NullOf g N') : (fun x => x ∈ N') = (fun x => x ∈ N) :=
  funext fun x => propext ⟨fun q => h'.1.least _ h.2 x q, fun q => h.1.least _ h'.2 x q⟩
theorem FSound.to {g : G} {N N' : List Str} {F : Str → List Str} (e : (fun x => x ∈ N') = (fun x => x ∈ N)) (h : FSound g N' F) : FSound g N F :=
  ⟨h.canon, h.inU, fun A hA => h.least A (fun h r y hm hy => hA h r y hm (by rw [← e]; exact hy))⟩
theorem FClosed.to {g : G} {N N' : List Str} {F : Str → List Str} (e : (fun x => x ∈ N') = (fun x => x ∈ N)) (h : FClosed g N' F) : FClosed g N F := fun h' r y hm hy => h h' r y hm (by rw [e]; exact hy)
theorem first_eq {g : G} {N : List Str} {F F' : Str → List Str} (h1 : FSound g N F) (h2 : FClosed g N F) (h1' : FSound g N F') (h2' : FClosed g N F') : ∀ k ∈ headsOf g, ∀ y, y ∈ F' k ↔ y ∈ F k :=
  fun k hk y => ⟨fun q => h1'.least (fun k y => y ∈ F k) h2 k hk y q, fun q => h1.least (fun k y => y ∈ F' k) h2' k hk y q⟩
theorem FSt_eq {g : G} {N : List Str} {F F' : Str → List Str} (h : ∀ k ∈ headsOf g, ∀ y, y ∈ F' k ↔ y ∈ F k) {r : List Str} {y : Str} : FSt g (· ∈ N) (fun x y => y ∈ F' x) r y ↔ FSt g (· ∈ N) (fun x y => y ∈ F x) r y :=
  ⟨FSt_mono fun x hx y q => (h x (((headsOf_spec g).2 x).mpr hx) y).mp q, FSt_mono fun x hx y q => (h x (((headsOf_spec g).2 x).mpr hx) y).mpr q⟩
theorem WOk.to {g : G} {st : Str} {N N' : List Str} {F F' : Str → List Str} {A : Str → Str → Prop} (e : (fun x => x ∈ N') = (fun x => x ∈ N)) (h : ∀ k ∈ headsOf g, ∀ y, y ∈ F' k ↔ y ∈ F k) (w : WOk g N' F' st A) : WOk g N F st A := by
  refine ⟨w.w0, fun h' a x b y hm hx hy => w.w1 h' a x b y hm hx ?_, fun h' a x b y hm hx hv => w.w2 h' a x b y hm hx (by rw [e]; exact hv)⟩
  rw [e]; exact (FSt_eq h).mpr hy
theorem Sets.of {g : G} {st : Str} {N N' : List Str} {F F' W : Str → List Str} (n : NullOf g N) (n' : NullOf g N') (h1 : FSound g N F) (h2 : FClosed g N F) (h1' : FSound g N' F') (h2' : FClosed g N' F') (w : WSound g N' F' st W) (w' : WOk g N' F' st (fun x y => y ∈ W x)) : Sets g st N F W := by
  have e := null_eq n n'
  have ef := first_eq h1 h2 (h1'.to e) (h2'.to e)
  exact ⟨n, h1, h2, ⟨w.canon, w.inU, fun A hA => w.least A (hA.to e.symm fun k hk y => (ef k hk y).symm)⟩, w'.to e ef⟩
/-- no two rules want one place -/
def NC (g : G) (N : List Str) (F W : Str → List Str) : Prop := ∀ (j j' : Nat) x x' y, g[j]? = some x → g[j']? = some x' → x.1 = x'.1 → Pred g N F W x y → Pred g N F W x' y → j = j'
def PredP (P : Vw) (a : Addr) (ps : List (List Str)) : Prop := ∃ ls : List Addr, P a (.list (ls.map V.ref)) ∧ ls.length = ps.length ∧ ∀ (i : Nat) l u, ls[i]? = some l → ps[i]? = some u → StrL P l u
theorem PredP.mono {a : Addr} {ps : List (List Str)} : Mono fun P => PredP P a ps := fun _ _ h ⟨ls, h1, h2, h3⟩ => ⟨ls, h _ _ h1, h2, fun i l u e1 e2 => h _ _ (h3 i l u e1 e2)⟩
def PredOf (g : G) (N : List Str) (F W : Str → List Str) (ps : List (List Str)) : Prop := ∀ (i : Nat) x u, g[i]? = some x → ps[i]? = some u → Canon u ∧ (∀ y ∈ u, y ∈ univ g) ∧ ∀ y, y ∈ u ↔ Pred g N F W x y

theorem get_snoc {α : Type} {l : List α} {a x : α} {i : Nat} (h : (l ++ [a])[i]? = some x) : (l[i]? = some x ∧ i < l.length) ∨ (i = l.length ∧ x = a) := by
  rcases Nat.lt_or_ge i l.length with q | q
  · rw [List.getElem?_append_left q] at h; exact .inl ⟨h, q⟩
  · rw [List.getElem?_append_right q] at h
    cases e : i - l.length with
    | zero => rw [e] at h; exact .inr ⟨by omega, by simpa using h.symm⟩
    | succ n => rw [e] at h; simp at h

/-- owned, but not this one -/
def ownB (σ : Hp) (b : Addr) : Vw := fun a o => σ a = some o ∧ a ≠ b

theorem spec_predict_sets (M : Mod) (hM : Ok M) (st : Str) (b0 : List Str) (g' : G) (ag : Addr) (hg : (symsOf ((st, b0) :: g')).length ≤ 28) :
    Spec M 6 (Str.ofString "predict_sets") [.ref ag] (fun P => GramP P ag ((st, b0) :: g')) (fun v P => ∃ a ps N F W, v = .ref a ∧ PredP P a ps ∧ ps.length = ((st, b0) :: g').length ∧ Sets ((st, b0) :: g') st N F W ∧ PredOf ((st, b0) :: g') N F W ps) := by
  have hfol : ∀ ag, Spec M 5 (Str.ofString "follow_sets") [.ref ag] (fun P => GramP P ag ((st, b0) :: g')) (fun v P => ∃ a W, v = .ref a ∧ DictP P a (headsOf ((st, b0) :: g')) W ∧ FollowsOf ((st, b0) :: g') st W) := fun ag => spec_follow_sets M hM st b0 g' ag hg
  generalize hge : (st, b0) :: g' = g at hg hfol ⊢
  have hgl : g.length ≤ 28 := Nat.le_trans (syms_len g) hg
  have hgb : ∀ x ∈ g, x.2.length ≤ 1000 := fun x hx => by have := body_len hx; omega
  obtain ⟨hnd, hmem⟩ := headsOf_spec g
  refine mkSpec hM.p 8 [Str.ofString "g"] (by rfl) (by decide) (by decide) (by decide) (fun vals pm code doc h => by obtain ⟨a, rfl, _⟩ := one_val h; rfl) (by rfl) (by rfl) (by rfl) ?_ ?_ fun c L fa code I hpre Qf hQf => ?_
  · exact GramP.mono
  · rintro v A B h ⟨a, ps, N, F, W, e, q, k⟩; exact ⟨a, ps, N, F, W, e, PredP.mono A B h q, k⟩
  have ho := I.env
  dsimp only [vars0] at ho I ⊢
  have hpre' := hpre
  obtain ⟨rs, q1, q2, q3⟩ := hpre
  have hgram : ∀ σ, GramP (Sees c σ) ag g := fun σ => GramP.mono _ _ (fun a o h => .inr h) hpre'
  walk_at "run"
  refine call_def I (by rfl) (M.fn hM.p 4 (by rfl)) ?_
  walk_at "run"
  refine ⟨_, _, _, spec_nullable_heads M hM g ag (by omega) hgb, by decide, hgram _, fun v σ₁ _ hR => ?_⟩
  obtain ⟨ln, N, rfl, oN, hN⟩ := hR
  have oN : σ₁ ln = some (.list (N.map V.str)) := oN
  walk_at "run"
  refine call_def I (by rfl) (M.fn hM.p 6 (by rfl)) ?_
  walk_at "run"
  refine ⟨_, _, _, spec_first_sets M hM g ag hg, by decide, hgram _, fun v σ₂ hx2 hR => ?_⟩
  obtain ⟨lf, F, rfl, hDF, N', hN', hFS, hFC⟩ := hR
  have eN := null_eq hN hN'
  have hFS := hFS.to eN
  have hFC := hFC.to eN
  have oN := hx2 _ _ oN
  walk_at "run"
  refine call_def I (by rfl) (M.fn hM.p 7 (by rfl)) ?_
  walk_at "run"
  refine ⟨_, _, _, hfol ag, by decide, hgram _, fun v σ₃ hx3 hR => ?_⟩
  obtain ⟨lw, W, rfl, hDW, N2, F2, n2, fs2, fc2, ws2, wok2⟩ := hR
  have hSets : Sets g st N F W := Sets.of hN n2 hFS hFC fs2 fc2 ws2 wok2
  have oN := hx3 _ _ oN
  have hDF : DictP (own σ₃) lf (headsOf g) F := DictP.mono _ _ (fun a o h => hx3 a o h) hDF
  walk_at "run"
  refine ⟨by simp, fun lp hlp => ?_⟩
  walk_at "stp"
  refine for_ I.room.1 (fun _ => .list ag (rs.map V.ref)) (fun _ i m σ => And8 (m (Str.ofString "nullables") = some (.ref ln)) (m (Str.ofString "firsts") = some (.ref lf)) (m (Str.ofString "follows") = some (.ref lw)) (m (Str.ofString "predicts") = some (.ref lp)) (ownB σ lp ln (.list (N.map V.str))) (DictP (ownB σ lp) lf (headsOf g) F) (DictP (ownB σ lp) lw (headsOf g) W) (∃ (ls : List Addr) (ps : List (List Str)), And5 (σ lp = some (.list (ls.map V.ref))) (ls.length = i) (ps.length = i) (∀ (j : Nat) l u, ls[j]? = some l → ps[j]? = some u → StrL (ownB σ lp) l u) (PredOf g N F W ps)))
      ?_ (fun _ i m σ _ => .inr q1) (fun _ i m σ u hI hu val hval Qz hQz => ?_) (fun _ m σ hI => ?_)
  · walk_at "run"
    exact ⟨⟨rfl, .inr q1⟩, by walk_at "vlook", by walk_at "vlook", by walk_at "vlook", by walk_at "vlook", ⟨upd_new hlp oN, ne_of_new hlp oN⟩, DictP.mono _ _ (fun a o h => ⟨upd_new hlp h, ne_of_new hlp h⟩) hDF, DictP.mono _ _ (fun a o h => ⟨upd_new hlp h, ne_of_new hlp h⟩) hDW, [], [], upd_self, rfl, rfl, fun j l u h => by simp at h, fun j x u _ h => by simp at h⟩
  · obtain ⟨v1, v2, v3, v4, o1, hDF, hDW, ls, ps, o2, hl1, hl2, hls, hps⟩ := hI
    obtain ⟨r, hr, rfl⟩ := map_get hu
    obtain ⟨⟨hd, bd⟩, hx⟩ := get_same q2 hr
    obtain ⟨b, k1, k2⟩ := q3 i r _ hr hx
    have hmg : (hd, bd) ∈ g := List.mem_of_getElem? hx
    have hhd : hd ∈ headsOf g := (hmem hd).mpr ⟨bd, hmg⟩
    have hig : i < g.length := (List.getElem?_eq_some_iff.mp hx).1
    have hDW0 := hDW
    obtain ⟨f, d1, d2, d3⟩ := hDW
    have d1 : σ lw = some (.dict (headsOf g) f) := d1.1
    obtain ⟨lhd, e3, e4⟩ := d2 hd hhd
    have e4 : σ lhd = some (.list ((W hd).map V.str)) := e4.1
    have hWl := hSets.ws.len hg hd hhd
    refine asg_local ho (by rfl) hval ?_
    walk_at "stp"
    refine assign_pair ho I.room.1 (by rfl) (by rfl) ?_ (by rfl) (by rfl)
    refine call_defN I (by rfl) (M.fn hM.p 5 (by rfl)) ?_
    walk_at "run"
    walk_at "op"
    walk_at "run"
    refine ⟨_, _, _, spec_first_of_string M hM (headsOf g) F N bd (univ g) b lf ln (by simp [univ]; omega) (univ_body hmg) hFS.inU (hFS.len hg), by decide, ⟨.inr k2, DictP.mono _ _ (fun a o h => .inl h.1) hDF, .inl o1.1⟩, fun v σ₂ hext hR => ?_⟩
    obtain ⟨t, r1, u1, bb, rfl, t1, t2, hCu, hu1, hbb⟩ := hR
    have hne1 : r1 ≠ lp := Ne.symm (ne_of_new t2.2 o2)
    have t1 : σ₂ t = some (.tuple [.ref r1, .bool bb]) := t1.1
    have t2 : σ₂ r1 = some (.list (u1.map V.str)) := t2.1
    refine ⟨t, _, _, rfl, .inl t1, ?_⟩
    have hu1U : ∀ y ∈ u1, y ∈ univ g := fun y hy => FSk_in (univ_body hmg) hFS.inU ((hu1 y).mp hy)
    have hu1l := hCu.le hu1U
    simp only [univ, List.length_cons] at hu1l
    walk_at "stp"
    refine X.mono (Q₁ := fun fl m₁ σ₄ => And7 (fl = .next) (∀ a o, σ a = some o → σ₄ a = some o) (m₁ (Str.ofString "nullables") = some (.ref ln)) (m₁ (Str.ofString "firsts") = some (.ref lf)) (m₁ (Str.ofString "follows") = some (.ref lw)) (m₁ (Str.ofString "predicts") = some (.ref lp)) (∃ lg gr, And6 (m₁ (Str.ofString "begins") = some (.ref lg)) (lg ≠ lp) (σ₄ lg = some (.list (gr.map V.str))) (Canon gr) (∀ y ∈ gr, y ∈ univ g) (∀ y, y ∈ gr ↔ Pred g N F W (hd, bd) y))) ?_ ?_
    · walk_at "run"
      refine ⟨bb, rfl, fun hbt => ?_, fun hbt => ?_⟩
      · have hv := hbb.mp hbt
        walk_at "run"
        refine call_defN I (by rfl) (M.fn hM.p 2 (by rfl)) ?_
        walk_at "run"
        walk_at "op"
        intro va vb ha hb
        refine sub_dict ha hb (.inl (hext _ _ d1)) e3 ?_
        walk_at "run"
        refine ⟨_, _, _, spec_merged M hM u1 (W hd) r1 lhd (by omega), by decide, ⟨.inl t2, .inl (hext _ _ e4)⟩, fun v σ₄ hext4 hR => ?_⟩
        obtain ⟨lg2, gr2, rfl, g2, hCg2, hgr2⟩ := hR
        have hne2 : lg2 ≠ lp := Ne.symm (ne_of_new g2.2 (hext _ _ o2))
        have g2 : σ₄ lg2 = some (.list (gr2.map V.str)) := g2.1
        walk_at "run"
        refine ⟨rfl, fun a o h => hext4 _ _ (hext a o h), by walk_at "vlook", by walk_at "vlook", by walk_at "vlook", by walk_at "vlook", lg2, gr2, by walk_at "vlook", hne2, g2, hCg2, fun y hy => ((hgr2 y).mp hy).elim (hu1U y) (hSets.ws.inU hd hhd y), fun y => ?_⟩
        rw [hgr2, hu1, FSk_iff]
        constructor
        · rintro (q | q)
          · exact .inl q
          · exact .inr ⟨Vk_iff.mp hv, q⟩
        · rintro (q | ⟨_, q⟩)
          · exact .inl q
          · exact .inr q
      · have hv : ¬ Vk (headsOf g) N bd := fun h => by rw [hbb.mpr h] at hbt; cases hbt
        walk_at "run"
        refine ⟨rfl, hext, by walk_at "vlook", by walk_at "vlook", by walk_at "vlook", by walk_at "vlook", r1, u1, by walk_at "vlook", hne1, t2, hCu, hu1U, fun y => ?_⟩
        rw [hu1, FSk_iff]
        constructor
        · exact fun q => .inl q
        · rintro (q | ⟨q, _⟩)
          · exact q
          · exact absurd (Vk_iff.mpr q) hv
    · rintro fl m₁ σ₄ ⟨rfl, hup4, v1, v2, v3, v4, lg, gr, v5, hne, g2, hCg, hgrU, hgr⟩
      dsimp only
      walk_at "run"
      refine ⟨lp, rfl, ⟨_, .inl (hup4 _ _ o2)⟩, ?_⟩
      walk_at "run"
      refine ⟨_, hup4 _ _ o2, by simp; omega, rfl, ?_⟩
      walk_at "run"
      have hkeep : ∀ a o, ownB σ lp a o → ownB (upd σ₄ lp (.list (ls.map V.ref ++ [V.ref lg]))) lp a o := fun a o h => ⟨upd_ne h.2 (hup4 _ _ h.1), h.2⟩
      refine ⟨by walk_at "vlook", by walk_at "vlook", by walk_at "vlook", by walk_at "vlook", hkeep _ _ o1, DictP.mono _ _ hkeep hDF, DictP.mono _ _ hkeep hDW0, ls ++ [lg], ps ++ [gr], by rw [upd_self, List.map_append]; rfl, by simp [hl1], by simp [hl2], fun j l u e1 e2 => ?_, fun j x u e1 e2 => ?_⟩
      · rcases get_snoc e1 with ⟨w1, w2⟩ | ⟨w1, w2⟩
        · rcases get_snoc e2 with ⟨w3, _⟩ | ⟨w3, _⟩
          · exact hkeep _ _ (hls j l u w1 w3)
          · omega
        · rcases get_snoc e2 with ⟨_, w3⟩ | ⟨_, w3⟩
          · omega
          · rw [w2, w3]; exact ⟨upd_ne hne g2, hne⟩
      · rcases get_snoc e2 with ⟨w3, _⟩ | ⟨w1, w3⟩
        · exact hps j x u e1 w3
        · have : j = i := by omega
          subst this
          rw [hx] at e1; cases e1
          rw [w3]; exact ⟨hCg, hgrU, hgr⟩
  · obtain ⟨v1, v2, v3, v4, o1, hDF, hDW, ls, ps, o2, hl1, hl2, hls, hps⟩ := hI
    have hlen : (Src.list ag (rs.map V.ref)).items.length = g.length := by simp [Src.items, q2]
    rw [hlen] at hl1 hl2
    walk_at "run"
    exact ⟨_, rfl, lp, ps, N, F, W, rfl, ⟨ls, o2, by omega, fun j l u e1 e2 => (hls j l u e1 e2).1⟩, hl2, hSets, hps⟩

/-- the table: for each head a dict of rule numbers -/
def TabP (P : Vw) (a : Addr) (ks : List Str) (T : Str → Str → Option Nat) : Prop :=
  ∃ f : Str → Option V, P a (.dict ks f) ∧ (∀ k, k ∈ ks → ∃ r ts, f k = some (.ref r) ∧ P r (.dict ts fun t => (T k t).map fun n => V.int (n : Nat))) ∧ (∀ k, k ∉ ks → f k = none)
theorem TabP.mono {a : Addr} {ks : List Str} {T : Str → Str → Option Nat} : Mono fun P => TabP P a ks T := fun _ _ h ⟨f, h1, h2, h3⟩ => ⟨f, h _ _ h1, fun k hk => let ⟨r, ts, q1, q2⟩ := h2 k hk; ⟨r, ts, q1, h _ _ q2⟩, h3⟩
def rowD (T : Str → Str → Option Nat) (k : Str) : Str → Option V := fun t => (T k t).map fun n => V.int (n : Nat)
structure TabS (σ : Hp) (U : List Str) (lt : Addr) (ks : List Str) (f : Str → Option V) (row : Str → Addr) (ts : Str → List Str) (T : Str → Str → Option Nat) : Prop where
  tab : σ lt = some (.dict ks f)
  val : ∀ k, k ∈ ks → f k = some (.ref (row k))
  no : ∀ k, k ∉ ks → f k = none
  rows : ∀ k, k ∈ ks → σ (row k) = some (.dict (ts k) (rowD T k))
  nodup : ∀ k, k ∈ ks → (ts k).Nodup
  sub : ∀ k, k ∈ ks → ∀ x ∈ ts k, x ∈ U
  ne : ∀ k, k ∈ ks → row k ≠ lt
  inj : ∀ k k', k ∈ ks → k' ∈ ks → row k = row k' → k = k'
theorem TabS.up {σ σ' : Hp} {U : List Str} {lt : Addr} {ks : List Str} {f : Str → Option V} {row : Str → Addr} {ts : Str → List Str} {T : Str → Str → Option Nat} (h : ∀ a o, σ a = some o → σ' a = some o) (t : TabS σ U lt ks f row ts T) : TabS σ' U lt ks f row ts T :=
  { t with tab := h _ _ t.tab, rows := fun k hk => h _ _ (t.rows k hk) }
theorem TabS.toP {σ : Hp} {U : List Str} {lt : Addr} {ks : List Str} {f : Str → Option V} {row : Str → Addr} {ts : Str → List Str} {T : Str → Str → Option Nat} (t : TabS σ U lt ks f row ts T) : TabP (own σ) lt ks T :=
  ⟨f, t.tab, fun k hk => ⟨row k, ts k, t.val k hk, t.rows k hk⟩, t.no⟩
/-- a new head -/
theorem TabS.add {σ : Hp} {U : List Str} {lt r : Addr} {ks : List Str} {f : Str → Option V} {row : Str → Addr} {ts : Str → List Str} {T : Str → Str → Option Nat} {x : Str} (t : TabS σ U lt ks f row ts T) (hr : σ r = none) (hx : x ∉ ks) (hT : ∀ y, T x y = none) :
    TabS (upd (upd σ r (.dict [] fun _ => none)) lt (.dict (ks ++ [x]) (upd f x (.ref r)))) U lt (ks ++ [x]) (upd f x (.ref r)) (fun k => if k = x then r else row k) (fun k => if k = x then [] else ts k) T := by
  have hrl : r ≠ lt := Ne.symm (ne_of_new hr t.tab)
  have mem : ∀ k, k ∈ ks ++ [x] ↔ k ∈ ks ∨ k = x := fun k => by simp
  refine ⟨upd_self, fun k hk => ?_, fun k hk => ?_, fun k hk => ?_, fun k hk => ?_, fun k hk => ?_, fun k hk => ?_, fun k k' hk hk' e => ?_⟩
  · by_cases e : k = x
    · subst e; simp [upd]
    · simp only [upd, e, if_false]; exact t.val k (((mem k).mp hk).resolve_right e)
  · rw [mem] at hk
    exact upd_ne (fun e => hk (.inr e)) (t.no k fun q => hk (.inl q))
  · by_cases e : k = x
    · subst e
      simp only [if_true]
      refine upd_ne hrl (upd_self.trans ?_)
      congr 1; congr 1
      funext y; simp [rowD, hT y]
    · simp only [e, if_false]
      have hk' := ((mem k).mp hk).resolve_right e
      exact upd_ne (t.ne k hk') (upd_new hr (t.rows k hk'))
  · by_cases e : k = x
    · simp only [e, if_true]; exact .nil
    · simp only [e, if_false]; exact t.nodup k (((mem k).mp hk).resolve_right e)
  · by_cases e : k = x
    · simp [e]
    · simp only [e, if_false]; exact t.sub k (((mem k).mp hk).resolve_right e)
  · by_cases e : k = x
    · simp only [e, if_true]; exact hrl
    · simp only [e, if_false]; exact t.ne k (((mem k).mp hk).resolve_right e)
  · have old : ∀ k, k ∈ ks → row k ≠ r := fun k hk q => by have := t.rows k hk; rw [q, hr] at this; cases this
    by_cases e1 : k = x
    · by_cases e2 : k' = x
      · rw [e1, e2]
      · simp only [e1, if_true, e2, if_false] at e
        exact absurd e.symm (old k' (((mem k').mp hk').resolve_right e2))
    · by_cases e2 : k' = x
      · simp only [e1, if_false, e2, if_true] at e
        exact absurd e (old k (((mem k).mp hk).resolve_right e1))
      · simp only [e1, if_false, e2] at e
        exact t.inj k k' (((mem k).mp hk).resolve_right e1) (((mem k').mp hk').resolve_right e2) e
def put2 (T : Str → Str → Option Nat) (h t : Str) (n : Nat) : Str → Str → Option Nat := fun h' t' => if h' = h ∧ t' = t then some n else T h' t'
/-- a new entry -/
theorem TabS.put {σ : Hp} {U : List Str} {lt : Addr} {ks : List Str} {f : Str → Option V} {row : Str → Addr} {ts : Str → List Str} {T : Str → Str → Option Nat} {h y : Str} {n : Nat} (t : TabS σ U lt ks f row ts T) (hh : h ∈ ks) (hy : y ∈ U) :
    TabS (upd σ (row h) (.dict (addKey (ts h) y) (upd (rowD T h) y (.int (n : Nat))))) U lt ks f row (fun k => if k = h then addKey (ts h) y else ts k) (put2 T h y n) := by
  refine ⟨upd_ne (Ne.symm (t.ne h hh)) t.tab, t.val, t.no, fun k hk => ?_, fun k hk => ?_, fun k hk => ?_, t.ne, t.inj⟩
  · by_cases e : k = h
    · subst e
      rw [upd_self]
      simp only [if_true]
      congr 1; congr 1
      funext z
      simp only [rowD, put2, upd]
      by_cases ez : z = y
      · simp [ez]
      · simp [ez]
    · simp only [e, if_false]
      refine upd_ne (fun q => e (t.inj k h hk hh q)) ((t.rows k hk).trans ?_)
      congr 1; congr 1
      funext z
      simp [rowD, put2, e]
  · by_cases e : k = h
    · simp only [e, if_true]
      unfold addKey
      split
      · exact t.nodup h hh
      · rename_i hn
        rw [List.nodup_append]
        refine ⟨t.nodup h hh, by simp, ?_⟩
        intro a ha b hb
        rw [List.mem_singleton] at hb
        subst hb
        exact fun e => hn (e ▸ ha)
    · simp only [e, if_false]; exact t.nodup k hk
  · by_cases e : k = h
    · simp only [e, if_true]
      intro x hx
      rcases addKey_mem.mp hx with q | q
      · exact t.sub h hh x q
      · rw [q]; exact hy
    · simp only [e, if_false]; exact t.sub k hk

/-- entries up to rule k, token i -/
def Done (ps : List (List Str)) (k i j : Nat) (t : Str) : Prop := ∃ u, ps[j]? = some u ∧ ((j < k ∧ t ∈ u) ∨ (j = k ∧ t ∈ u.take i))
def NCl (g : G) (ps : List (List Str)) : Prop := ∀ (j j' : Nat) x x' u u' t, g[j]? = some x → g[j']? = some x' → ps[j]? = some u → ps[j']? = some u' → x.1 = x'.1 → t ∈ u → t ∈ u' → j = j'
structure TInv (g : G) (ps : List (List Str)) (k i : Nat) (T : Str → Str → Option Nat) (cl : Nat) : Prop where
  a : ∀ h t j, T h t = some j → Done ps k i j t ∧ ∃ r, g[j]? = some (h, r)
  b : ∀ (j : Nat) t h r, Done ps k i j t → g[j]? = some (h, r) → ∃ j', T h t = some j'
  c : cl = 0 → ∀ (j j' : Nat) t h r r', Done ps k i j t → Done ps k i j' t → g[j]? = some (h, r) → g[j']? = some (h, r') → j = j'
  d : NCl g ps → cl = 0
theorem done_succ {ps : List (List Str)} {k i : Nat} {u : List Str} {t : Str} (hu : ps[k]? = some u) (ht : u[i]? = some t) {j : Nat} {t' : Str} : Done ps k (i + 1) j t' ↔ Done ps k i j t' ∨ (j = k ∧ t' = t) := by
  constructor
  · rintro ⟨v, hv, ⟨h1, h2⟩ | ⟨h1, h2⟩⟩
    · exact .inl ⟨v, hv, .inl ⟨h1, h2⟩⟩
    · subst h1
      rw [hu] at hv; cases hv
      rw [take_succ_get ht] at h2
      rcases List.mem_append.mp h2 with q | q
      · exact .inl ⟨u, hu, .inr ⟨rfl, q⟩⟩
      · exact .inr ⟨rfl, List.mem_singleton.mp q⟩
  · rintro (⟨v, hv, ⟨h1, h2⟩ | ⟨h1, h2⟩⟩ | ⟨h1, h2⟩)
    · exact ⟨v, hv, .inl ⟨h1, h2⟩⟩
    · subst h1
      rw [hu] at hv; cases hv
      exact ⟨u, hu, .inr ⟨rfl, by rw [take_succ_get ht]; exact List.mem_append_left _ h2⟩⟩
    · subst h1; subst h2
      exact ⟨u, hu, .inr ⟨rfl, by rw [take_succ_get ht]; simp⟩⟩
theorem TInv.hit {g : G} {ps : List (List Str)} {k i : Nat} {T : Str → Str → Option Nat} {cl j0 : Nat} {u : List Str} {t h : Str} {r : List Str} (I : TInv g ps k i T cl) (hu : ps[k]? = some u) (ht : u[i]? = some t) (hn : u.Nodup) (hk : g[k]? = some (h, r)) (hT : T h t = some j0) :
    TInv g ps k (i + 1) T (cl + 1) := by
  refine ⟨fun h' t' j e => ?_, fun j t' h' r' hd hj => ?_, fun h => (by omega), fun hNC => ?_⟩
  · exact ⟨(done_succ hu ht).mpr (.inl (I.a h' t' j e).1), (I.a h' t' j e).2⟩
  · rcases (done_succ hu ht).mp hd with q | ⟨rfl, rfl⟩
    · exact I.b j t' h' r' q hj
    · rw [hk] at hj; cases hj; exact ⟨j0, hT⟩
  · exfalso
    obtain ⟨⟨v, hv, hd⟩, r0, hj0⟩ := I.a h t j0 hT
    have htu : t ∈ u := List.mem_of_getElem? ht
    rcases hd with ⟨h1, h2⟩ | ⟨h1, h2⟩
    · have := hNC j0 k (h, r0) (h, r) v u t hj0 hk hv hu rfl h2 htu
      omega
    · subst h1
      rw [hu] at hv; cases hv
      have h3 := hn
      rw [← List.take_append_drop i u, drop_get ht, List.nodup_append] at h3
      exact h3.2.2 t h2 t List.mem_cons_self rfl
theorem TInv.new {g : G} {ps : List (List Str)} {k i : Nat} {T : Str → Str → Option Nat} {cl : Nat} {u : List Str} {t h : Str} {r : List Str} (I : TInv g ps k i T cl) (hu : ps[k]? = some u) (ht : u[i]? = some t) (hk : g[k]? = some (h, r)) (hT : T h t = none) :
    TInv g ps k (i + 1) (put2 T h t k) cl := by
  have nold : ∀ j r', Done ps k i j t → g[j]? = some (h, r') → False := fun j r' hd hj => by
    obtain ⟨j', e⟩ := I.b j t h r' hd hj
    rw [hT] at e; cases e
  refine ⟨fun h' t' j e => ?_, fun j t' h' r' hd hj => ?_, fun hc j j' t' h' r' r'' h1 h2 h3 h4 => ?_, I.d⟩
  · unfold put2 at e
    split at e
    · rename_i q
      cases e
      rw [q.1, q.2]
      exact ⟨(done_succ hu ht).mpr (.inr ⟨rfl, rfl⟩), r, hk⟩
    · exact ⟨(done_succ hu ht).mpr (.inl (I.a h' t' j e).1), (I.a h' t' j e).2⟩
  · unfold put2
    split
    · exact ⟨k, rfl⟩
    · rename_i q
      rcases (done_succ hu ht).mp hd with w | ⟨rfl, rfl⟩
      · exact I.b j t' h' r' w hj
      · rw [hk] at hj; cases hj; exact absurd ⟨rfl, rfl⟩ q
  · rcases (done_succ hu ht).mp h1 with w1 | ⟨rfl, rfl⟩
    · rcases (done_succ hu ht).mp h2 with w2 | ⟨rfl, rfl⟩
      · exact I.c hc j j' t' h' r' r'' w1 w2 h3 h4
      · rw [hk] at h4; cases h4; exact (nold j r' w1 h3).elim
    · rcases (done_succ hu ht).mp h2 with w2 | ⟨q, _⟩
      · rw [hk] at h3; cases h3; exact (nold j' r'' w2 h4).elim
      · exact q.symm
theorem done_next {ps : List (List Str)} {k : Nat} {u : List Str} (hu : ps[k]? = some u) {j : Nat} {t : Str} : Done ps (k + 1) 0 j t ↔ Done ps k u.length j t := by
  constructor
  · rintro ⟨v, hv, ⟨h1, h2⟩ | ⟨h1, h2⟩⟩
    · rcases Nat.lt_succ_iff_lt_or_eq.mp h1 with q | rfl
      · exact ⟨v, hv, .inl ⟨q, h2⟩⟩
      · rw [hu] at hv; cases hv
        exact ⟨u, hu, .inr ⟨rfl, by rw [List.take_length]; exact h2⟩⟩
    · simp at h2
  · rintro ⟨v, hv, ⟨h1, h2⟩ | ⟨h1, h2⟩⟩
    · exact ⟨v, hv, .inl ⟨by omega, h2⟩⟩
    · subst h1
      rw [hu] at hv; cases hv
      rw [List.take_length] at h2
      exact ⟨u, hu, .inl ⟨by omega, h2⟩⟩
theorem TInv.next {g : G} {ps : List (List Str)} {k : Nat} {T : Str → Str → Option Nat} {cl : Nat} {u : List Str} (I : TInv g ps k u.length T cl) (hu : ps[k]? = some u) : TInv g ps (k + 1) 0 T cl :=
  ⟨fun h t j e => ⟨(done_next hu).mpr (I.a h t j e).1, (I.a h t j e).2⟩, fun j t h r hd hj => I.b j t h r ((done_next hu).mp hd) hj, fun hc j j' t h r r' h1 h2 => I.c hc j j' t h r r' ((done_next hu).mp h1) ((done_next hu).mp h2), I.d⟩

/-- what the table says -/
structure TabOf (g : G) (N : List Str) (F W : Str → List Str) (T : Str → Str → Option Nat) (cl : Nat) : Prop where
  a : ∀ h t j, T h t = some j → ∃ r, g[j]? = some (h, r) ∧ Pred g N F W (h, r) t
  b : ∀ (j : Nat) t h r, g[j]? = some (h, r) → Pred g N F W (h, r) t → ∃ j', T h t = some j'
  c : cl = 0 ↔ NC g N F W
theorem TInv.tabOf {g : G} {ps : List (List Str)} {T : Str → Str → Option Nat} {cl : Nat} {N : List Str} {F W : Str → List Str} (I : TInv g ps g.length 0 T cl) (hl : ps.length = g.length) (hp : PredOf g N F W ps) : TabOf g N F W T cl := by
  have dn : ∀ (j : Nat) x t, g[j]? = some x → (Done ps g.length 0 j t ↔ Pred g N F W x t) := fun j x t hj => by
    obtain ⟨u, hu⟩ := get_same hl.symm hj
    have hjl : j < g.length := (List.getElem?_eq_some_iff.mp hj).1
    rw [← (hp j x u hj hu).2.2 t]
    constructor
    · rintro ⟨v, hv, ⟨_, h2⟩ | ⟨h1, _⟩⟩
      · rw [hu] at hv; cases hv; exact h2
      · omega
    · exact fun h => ⟨u, hu, .inl ⟨hjl, h⟩⟩
  refine ⟨fun h t j e => ?_, fun j t h r hj hP => I.b j t h r ((dn j _ t hj).mpr hP) hj, fun hc j j' x x' y h1 h2 e p1 p2 => ?_, fun hNC => I.d ?_⟩
  · obtain ⟨hd, r, hj⟩ := I.a h t j e
    exact ⟨r, hj, (dn j _ t hj).mp hd⟩
  · obtain ⟨hx, rx⟩ := x
    obtain ⟨hx', rx'⟩ := x'
    obtain rfl : hx = hx' := e
    exact I.c hc j j' y hx rx rx' ((dn j _ y h1).mpr p1) ((dn j' _ y h2).mpr p2) h1 h2
  · intro j j' x x' u u' t h1 h2 h3 h4 e m1 m2
    exact hNC j j' x x' t h1 h2 e (((hp j x u h1 h3).2.2 t).mp m1) (((hp j' x' u' h2 h4).2.2 t).mp m2)

theorem spec_ll1_table (M : Mod) (hM : Ok M) (st : Str) (b0 : List Str) (g' : G) (ag : Addr) (hg : (symsOf ((st, b0) :: g')).length ≤ 28) :
    Spec M 7 (Str.ofString "ll1_table") [.ref ag] (fun P => GramP P ag ((st, b0) :: g'))
      (fun v P => ∃ t a T cl N F W, v = .ref t ∧ P t (.tuple [.ref a, .int (cl : Nat)]) ∧ TabP P a (headsOf ((st, b0) :: g')) T ∧ Sets ((st, b0) :: g') st N F W ∧ TabOf ((st, b0) :: g') N F W T cl) := by
  have hprd := fun ag => spec_predict_sets M hM st b0 g' ag hg
  generalize hge : (st, b0) :: g' = g at hg hprd ⊢
  have hgl : g.length ≤ 28 := Nat.le_trans (syms_len g) hg
  have hUl : (univ g).length ≤ 29 := by simp [univ]; omega
  have hhl := headsOf_len g
  obtain ⟨hnd, hmem⟩ := headsOf_spec g
  refine mkSpec hM.p 9 [Str.ofString "g"] (by rfl) (by decide) (by decide) (by decide) (fun vals pm code doc h => by obtain ⟨a, rfl, _⟩ := one_val h; rfl) (by rfl) (by rfl) (by rfl) ?_ ?_ fun c L fa code I hpre Qf hQf => ?_
  · exact GramP.mono
  · rintro v A B h ⟨t, a, T, cl, N, F, W, e, q, q', k⟩; exact ⟨t, a, T, cl, N, F, W, e, h _ _ q, TabP.mono A B h q', k⟩
  have ho := I.env
  dsimp only [vars0] at ho I ⊢
  have hpre' := hpre
  obtain ⟨rs, q1, q2, q3⟩ := hpre
  have hgram : ∀ σ, GramP (Sees c σ) ag g := fun σ => GramP.mono _ _ (fun a o h => .inr h) hpre'
  walk_at "run"
  refine call_def I (by rfl) (M.fn hM.p 8 (by rfl)) ?_
  walk_at "run"
  refine ⟨_, _, _, hprd ag, by decide, hgram _, fun v σ₁ _ hR => ?_⟩
  obtain ⟨lp, ps, N, F, W, rfl, ⟨ls, p1, p2, p3⟩, hpl, hSets, hPO⟩ := hR
  have p1 : σ₁ lp = some (.list (ls.map V.ref)) := p1
  walk_at "run"
  refine new_dict hM I fun lt hlt => ?_
  walk_at "stp"
  refine for_ I.room.1 (fun v => .list v.addr ((headsOf g).map V.str)) (fun v i m σ => And6 (m (Str.ofString "g") = some (.ref ag)) (m (Str.ofString "predicts") = some (.ref lp)) (m (Str.ofString "table") = some (.ref lt)) (σ v.addr = some (.list ((headsOf g).map V.str))) (∀ a xs, σ₁ a = some (.list xs) → σ a = some (.list xs)) (∃ f row ts, TabS σ (univ g) lt ((headsOf g).take i) f row ts (fun _ _ => none)))
      ?_ (fun _ i m σ h => .inl h.h4) (fun v i m σ u hI hu val hval Qz hQz => ?_) (fun v m σ hI => ?_)
  · refine call_def I (by rfl) (M.fn hM.p 1 (by rfl)) ?_
    walk_at "run"
    refine ⟨_, _, _, spec_heads_of M hM g ag (by omega), by decide, hgram _, fun v σ₃ hext hR => ?_⟩
    obtain ⟨lh, rfl, oh⟩ := hR
    refine ⟨⟨rfl, .inl oh⟩, by walk_at "vlook", by walk_at "vlook", by walk_at "vlook", oh, fun a xs h => hext _ _ (upd_new hlt h), fun _ => none, fun _ => 0, fun _ => [], hext _ _ upd_self, fun k hk => ?_, fun k _ => rfl, fun k hk => ?_, fun k hk => ?_, fun k hk => ?_, fun k hk => ?_, fun k k' hk => ?_⟩ <;> simp at hk
  · obtain ⟨v1, v2, v3, o1, o2, f, row, ts, hT⟩ := hI
    obtain ⟨x, hx, rfl⟩ := map_get hu
    refine asg_local ho (by rfl) hval ?_
    walk_at "stp"
    refine assign_sub ?_ (by rfl)
    refine new_dict hM I fun r hr => ?_
    walk_at "run"
    intro val oval ival e1 e2 e3
    have hxn : x ∉ (headsOf g).take i := fun hm => by
      have h1 := hnd
      rw [← List.take_append_drop i (headsOf g), drop_get hx, List.nodup_append] at h1
      exact h1.2.2 x hm x List.mem_cons_self rfl
    refine set_dict e2 e3 e1 (upd_new hr hT.tab) (by have : ((headsOf g).take i).length ≤ (headsOf g).length := by rw [List.length_take]; exact Nat.min_le_right _ _
                                                     omega) ?_
    walk_at "run"
    have hadd := hT.add hr hxn (fun _ => rfl)
    rw [addKey_new hxn, take_succ_get hx]
    refine ⟨by walk_at "vlook", by walk_at "vlook", by walk_at "vlook", upd_ne (fun q => by rw [q, hT.tab] at o1; cases o1) (upd_new hr o1), fun a xs h => ?_, _, _, _, hadd⟩
    have h := o2 a xs h
    exact upd_ne (fun q => by rw [q, hT.tab] at h; cases h) (upd_new hr h)
  · obtain ⟨v1, v2, v3, o1, o2, hT⟩ := hI
    have hlen : (Src.list v.addr ((headsOf g).map V.str)).items.length = (headsOf g).length := by simp [Src.items]
    rw [hlen, List.take_length] at hT
    walk_at "run"
    refine for_ I.room.1 (fun _ => .range g.length) (fun _ k m σ => And5 (m (Str.ofString "g") = some (.ref ag)) (m (Str.ofString "predicts") = some (.ref lp)) (m (Str.ofString "table") = some (.ref lt)) (∀ a xs, σ₁ a = some (.list xs) → σ a = some (.list xs)) (∃ (cl : Nat) (T : Str → Str → Option Nat) (f : Str → Option V) (row : Str → Addr) (ts : Str → List Str), And3 (m (Str.ofString "clashes") = some (.int (cl : Nat))) (TabS σ (univ g) lt (headsOf g) f row ts T) (TInv g ps k 0 T cl)))
      ?_ (fun _ k m σ _ => trivial) (fun _ k m σ u hI hu val hval Qz hQz => ?_) (fun _ m σ hI => ?_)
    · obtain ⟨f, row, ts, hT⟩ := hT
      refine call_range hM I (by rfl) ?_
      walk_at "stp"
      refine call_len hM I (by rfl) ?_
      walk_at "run"
      refine ⟨ag, rs.map V.ref, rfl, .inl (.inr q1), by simp; omega, ?_⟩
      walk_at "run"
      refine ⟨_, rfl, fun rr hrr => ⟨⟨rr, rfl, .inl ?_, by omega⟩, by walk_at "vlook", by walk_at "vlook", by walk_at "vlook", fun a xs h => upd_new hrr (o2 a xs h), 0, fun _ _ => none, f, row, ts, by exact upd_self, hT.up (fun a o h => upd_new hrr h), ?_⟩⟩
      · rw [upd_self, List.length_map, q2]
      · refine ⟨fun h t j e => (nomatch e), fun j t h r hd hj => ?_, fun _ j j' t h r r' h1 => ?_, fun _ => rfl⟩
        · obtain ⟨u, _, ⟨q, _⟩ | ⟨_, q⟩⟩ := hd
          · exact absurd q (Nat.not_lt_zero _)
          · simp at q
        · obtain ⟨u, _, ⟨q, _⟩ | ⟨_, q⟩⟩ := h1
          · exact absurd q (Nat.not_lt_zero _)
          · simp at q
    · clear v1 v2 v3 o1 o2 hT
      obtain ⟨v1, v2, v3, o2, cl, T, f, row, ts, v4, hT, hTI⟩ := hI
      obtain ⟨hk, rfl⟩ : k < g.length ∧ V.int (k : Nat) = u := by
        obtain ⟨z, hz, rfl⟩ := map_get hu
        obtain ⟨h1, h2⟩ := List.getElem?_eq_some_iff.mp hz
        simp at h1 h2
        exact ⟨h1, by rw [← h2]⟩
      obtain ⟨⟨hd, bd⟩, hx⟩ : ∃ x, g[k]? = some x := ⟨g[k], by simp [hk]⟩
      obtain ⟨r, hr⟩ := get_same q2.symm hx
      obtain ⟨b, k1, k2⟩ := q3 k r _ hr hx
      obtain ⟨uu, huu⟩ := get_same hpl.symm hx
      obtain ⟨lu, hlu⟩ := get_same p2.symm huu
      have p3' : σ₁ lu = some (.list (uu.map V.str)) := p3 k lu uu hlu huu
      obtain ⟨hCu, huU, _⟩ := hPO k _ uu hx huu
      have hmg : (hd, bd) ∈ g := List.mem_of_getElem? hx
      have hhd : hd ∈ headsOf g := (hmem hd).mpr ⟨bd, hmg⟩
      have hrv : (rs.map V.ref)[((k : Nat) : Int).toNat]? = some (.ref r) := by rw [Int.toNat_natCast, List.getElem?_map, hr]; rfl
      have hlv : (ls.map V.ref)[((k : Nat) : Int).toNat]? = some (.ref lu) := by rw [Int.toNat_natCast, List.getElem?_map, hlu]; rfl
      have h0 : (0 : Int) ≤ ((k : Nat) : Int) := by omega
      have h63 : ((k : Nat) : Int) < 2 ^ 63 := by omega
      refine asg_local ho (by rfl) hval ?_
      walk_at "run"
      intro va vb ha hb
      refine sub_list ha hb (.inr q1) h0 h63 hrv ?_
      walk_at "run"
      walk_at "op"
      intro va vb ha hb
      refine sub_dict ha hb (.inl hT.tab) (hT.val hd hhd) ?_
      walk_at "stp"
      refine for_ I.room.1 (fun _ => .list lu (uu.map V.str)) (fun _ i m σ => And7 (m (Str.ofString "g") = some (.ref ag)) (m (Str.ofString "predicts") = some (.ref lp)) (m (Str.ofString "table") = some (.ref lt)) (m (Str.ofString "k") = some (.int (k : Nat))) (m (Str.ofString "row") = some (.ref (row hd))) (∀ a xs, σ₁ a = some (.list xs) → σ a = some (.list xs)) (∃ (cl : Nat) (T : Str → Str → Option Nat) (ts : Str → List Str), And3 (m (Str.ofString "clashes") = some (.int (cl : Nat))) (TabS σ (univ g) lt (headsOf g) f row ts T) (TInv g ps k i T cl)))
        ?_ (fun _ i m σ h => .inl (h.h6 _ _ p3')) (fun _ i m σ u hI hu val hval Qz hQz => ?_) (fun _ m σ hI => ?_)
      · walk_at "run"
        intro va vb ha hb
        refine sub_list ha hb (.inl (o2 _ _ p1)) h0 h63 hlv ?_
        exact ⟨⟨rfl, .inl (o2 _ _ p3')⟩, by walk_at "vlook", by walk_at "vlook", by walk_at "vlook", by walk_at "vlook", by walk_at "vlook", o2, cl, T, ts, by walk_at "vlook", hT, hTI⟩
      · clear v1 v2 v3 v4 o2 hT hTI
        obtain ⟨v1, v2, v3, v5, v6, o2, cl, T, ts, v4, hT, hTI⟩ := hI
        obtain ⟨t, ht, rfl⟩ := map_get hu
        have hrow := hT.rows hd hhd
        refine asg_local ho (by rfl) hval ?_
        walk_at "run"
        walk_at "op"
        refine ⟨_, rfl, fun hb => ?_, fun hb => ?_⟩
        · obtain ⟨j0, hj0⟩ : ∃ j0, T hd t = some j0 := by
            cases e : T hd t with
            | none => simp [rowD, e] at hb
            | some j0 => exact ⟨j0, rfl⟩
          walk_at "run"
          walk_at "op"
          walk_at "run"
          refine ⟨by walk_at "vlook", by walk_at "vlook", by walk_at "vlook", by walk_at "vlook", by walk_at "vlook", o2, cl + 1, T, ts, ?_, hT, hTI.hit huu ht hCu.1 hx hj0⟩
          rw [upd_self]; rfl
        · have hnone : T hd t = none := by
            cases e : T hd t with
            | none => rfl
            | some j0 => simp [rowD, e] at hb
          walk_at "stp"
          refine assign_sub ?_ (by rfl)
          walk_at "run"
          intro val oval ival e1 e2 e3
          have hts := List.Nodup.length_le_of_subset (hT.nodup hd hhd) (hT.sub hd hhd)
          refine set_dict e2 e3 e1 hrow (by omega) ?_
          walk_at "run"
          refine ⟨by walk_at "vlook", by walk_at "vlook", by walk_at "vlook", by walk_at "vlook", by walk_at "vlook", fun a xs h => ?_, cl, put2 T hd t k, _, by walk_at "vlook", hT.put hhd (huU t (List.mem_of_getElem? ht)), hTI.new huu ht hx hnone⟩
          have h := o2 a xs h
          exact upd_ne (fun q => by rw [q, hrow] at h; cases h) h
      · obtain ⟨v1, v2, v3, v5, v6, o2, cl, T, ts, v4, hT, hTI⟩ := hI
        have hlen : (Src.list lu (uu.map V.str)).items.length = uu.length := by simp [Src.items]
        rw [hlen] at hTI
        walk_at "run"
        exact ⟨v1, v2, v3, o2, cl, T, f, row, ts, v4, hT, hTI.next huu⟩
    · clear v1 v2 v3 o1 o2 hT
      obtain ⟨v1, v2, v3, o2, cl, T, f, row, ts, v4, hT, hTI⟩ := hI
      have hlen : (Src.range g.length).items.length = g.length := by simp [Src.items]
      rw [hlen] at hTI
      walk_at "run"
      refine ⟨by simp, fun t ht => hQf.go <| ⟨_, rfl, t, lt, T, cl, N, F, W, rfl, upd_self, TabP.mono _ _ (own_new ht) hT.toP, hSets, hTI.tabOf hpl hPO⟩⟩

/-! the sum grammar, its sets and the places of its table that the parse reads -/
abbrev sE : Str := Str.ofString "E"
abbrev sX : Str := Str.ofString "X"
abbrev sT : Str := Str.ofString "T"
abbrev sY : Str := Str.ofString "Y"
abbrev sF : Str := Str.ofString "F"
abbrev tn : Str := Str.ofString "n"
abbrev tp : Str := Str.ofString "+"
abbrev tm : Str := Str.ofString "*"
abbrev lp : Str := Str.ofString "("
abbrev rp : Str := Str.ofString ")"
def gE' : G := [(sX, [tp, sT, sX]), (sX, []), (sT, [sF, sY]), (sY, [tm, sF, sY]), (sY, []), (sF, [lp, sE, rp]), (sF, [tn])]
def gE : G := (sE, [sT, sX]) :: gE'
def hsE : List Str := [sE, sX, sT, sY, sF]
theorem headsE : headsOf gE = hsE := by decide +kernel
theorem isHeadE {x : Str} : IsHead gE x ↔ x ∈ hsE := by rw [← headsE]; exact ((headsOf_spec gE).2 x).symm

def nE : List Str := [sX, sY]
def fE (x : Str) : List Str := if x = sX then [tp] else if x = sY then [tm] else [lp, tn]
def wE (x : Str) : List Str := if x = sE then [dol, rp] else if x = sX then [dol, rp] else if x = sF then [tm, tp, dol, rp] else [tp, dol, rp]
def firstE : List Str → List Str
  | [] => []
  | x :: r => if x ∈ hsE then fE x ++ (if x ∈ nE then firstE r else []) else [x]
theorem fstU {N : List Str} {A : Str → Str → Prop} (hN : ∀ x ∈ N, x ∈ nE) (hA : ∀ x y, x ∈ hsE → A x y → y ∈ fE x) : ∀ {r : List Str} {y : Str}, FSt gE (· ∈ N) A r y → y ∈ firstE r
  | [], _, h => h.elim
  | x :: r, y, h => by
    rw [firstE]
    rcases h with ⟨h1, h2⟩ | ⟨h1, h2⟩
    · have hx := isHeadE.mp h1
      rw [if_pos hx, List.mem_append]
      rcases h2 with q | ⟨q1, q2⟩
      · exact .inl (hA x y hx q)
      · rw [if_pos (hN x q1)]
        exact .inr (fstU hN hA q2)
    · rw [if_neg fun q => h1 (isHeadE.mpr q)]
      exact List.mem_singleton.mpr h2
theorem chkN : ∀ x ∈ gE, (∀ s ∈ x.2, s ∈ nE) → x.1 ∈ nE := by decide +kernel
theorem chkF : ∀ x ∈ gE, ∀ y ∈ firstE x.2, y ∈ fE x.1 := by decide +kernel
theorem chkW1 : ∀ x ∈ gE, ∀ p ∈ List.range x.2.length, ∀ y ∈ firstE (x.2.drop (p + 1)), x.2.getD p dol ∈ hsE → y ∈ wE (x.2.getD p dol) := by decide +kernel
theorem chkW2 : ∀ x ∈ gE, ∀ p ∈ List.range x.2.length, (∀ s ∈ x.2.drop (p + 1), s ∈ nE) → ∀ y ∈ wE x.1, x.2.getD p dol ∈ hsE → y ∈ wE (x.2.getD p dol) := by decide +kernel
theorem at_mid (a : List Str) (x : Str) (b : List Str) : a.length ∈ List.range (a ++ x :: b).length ∧ (a ++ x :: b).drop (a.length + 1) = b ∧ (a ++ x :: b).getD a.length dol = x := by
  refine ⟨by simp, ?_, by simp⟩
  rw [← List.drop_drop]; simp

def predE (x : Str × List Str) : List Str := firstE x.2 ++ (if ∀ s ∈ x.2, s ∈ nE then wE x.1 else [])
section
variable {N : List Str} {F W : Str → List Str}
theorem upN (hS : Sets gE sE N F W) : ∀ x ∈ N, x ∈ nE := hS.null.1.least (· ∈ nE) fun h r hm hs => chkN (h, r) hm fun s q => (hs s q).resolve_left (by simp)
theorem upF (hS : Sets gE sE N F W) : ∀ x y, x ∈ hsE → y ∈ F x → y ∈ fE x := fun x y hx hy =>
  hS.fs.least (fun k y => y ∈ fE k) (fun h r y hm hy => chkF (h, r) hm y (fstU (upN hS) (fun _ _ _ q => q) hy)) x (headsE ▸ hx) y hy
theorem upW (hS : Sets gE sE N F W) : ∀ x y, x ∈ hsE → y ∈ W x → y ∈ wE x := fun x y hx hy => by
  refine hS.ws.least (fun k y => y ∈ wE k) ⟨by decide +kernel, fun h a x b y hm hx hy => ?_, fun h a x b y hm hx hv hy => ?_⟩ x (headsE ▸ hx) y hy
  · obtain ⟨k1, k2, k3⟩ := at_mid a x b
    have := chkW1 _ hm a.length k1 y (by show y ∈ firstE ((a ++ x :: b).drop (a.length + 1)); rw [k2]; exact fstU (upN hS) (upF hS) hy)
    dsimp only at this
    rw [k3] at this
    exact this (isHeadE.mp hx)
  · obtain ⟨k1, k2, k3⟩ := at_mid a x b
    have := chkW2 _ hm a.length k1 (by show ∀ s ∈ (a ++ x :: b).drop (a.length + 1), s ∈ nE; rw [k2]; exact fun s q => upN hS s (hv s q).2) y hy
    dsimp only at this
    rw [k3] at this
    exact this (isHeadE.mp hx)
theorem upP (hS : Sets gE sE N F W) {x : Str × List Str} {y : Str} (hx : x ∈ gE) (h : Pred gE N F W x y) : y ∈ predE x := by
  rw [predE, List.mem_append]
  rcases h with h | ⟨h1, h2⟩
  · exact .inl (fstU (upN hS) (upF hS) h)
  · rw [if_pos fun s q => upN hS s (h1 s q).2]
    exact .inr (upW hS _ _ (isHeadE.mp ⟨x.2, hx⟩) h2)
theorem hdE {x : Str} (h : x ∈ hsE) : IsHead gE x := isHeadE.mpr h
theorem noE {x : Str} (h : x ∉ hsE) : ¬ IsHead gE x := fun q => h (isHeadE.mp q)

def wantE : List (Str × Str × Nat) := [(sE, tn, 0), (sT, tn, 3), (sF, tn, 7), (sY, tp, 5), (sX, tp, 1), (sY, tm, 4), (sY, dol, 5), (sX, dol, 2)]
theorem chkT : ∀ e ∈ wantE, ∀ j' ∈ List.range 8, ∀ x ∈ gE[j']?, x.1 = e.1 → e.2.1 ∈ predE x → j' = e.2.2 := by decide +kernel
theorem lowE (hS : Sets gE sE N F W) : ∀ e ∈ wantE, ∃ r, gE[e.2.2]? = some (e.1, r) ∧ Pred gE N F W (e.1, r) e.2.1 := by
  have hX : sX ∈ N := hS.null.2 sX [] (by decide +kernel) fun _ q => (nomatch q)
  have n1 : tn ∈ F sF := hS.fc sF [tn] tn (by decide +kernel) (.inr ⟨noE (by decide +kernel), rfl⟩)
  have n2 : tn ∈ F sT := hS.fc sT [sF, sY] tn (by decide +kernel) (.inl ⟨hdE (by decide +kernel), .inl n1⟩)
  have p1 : tp ∈ F sX := hS.fc sX [tp, sT, sX] tp (by decide +kernel) (.inr ⟨noE (by decide +kernel), rfl⟩)
  have d0 : dol ∈ W sE := hS.wok.w0
  have d1 : dol ∈ W sX := hS.wok.w2 sE [sT] sX [] dol (by decide +kernel) (hdE (by decide +kernel)) (fun _ q => (nomatch q)) d0
  have d2 : dol ∈ W sT := hS.wok.w2 sE [] sT [sX] dol (by decide +kernel) (hdE (by decide +kernel)) (fun s q => by rw [List.mem_singleton.mp q]; exact ⟨hdE (by decide +kernel), hX⟩) d0
  have d3 : dol ∈ W sY := hS.wok.w2 sT [sF] sY [] dol (by decide +kernel) (hdE (by decide +kernel)) (fun _ q => (nomatch q)) d2
  have p2 : tp ∈ W sT := hS.wok.w1 sE [] sT [sX] tp (by decide +kernel) (hdE (by decide +kernel)) (.inl ⟨hdE (by decide +kernel), .inl p1⟩)
  have p3 : tp ∈ W sY := hS.wok.w2 sT [sF] sY [] tp (by decide +kernel) (hdE (by decide +kernel)) (fun _ q => (nomatch q)) p2
  intro e he
  simp only [wantE, List.mem_cons, List.not_mem_nil, or_false] at he
  rcases he with rfl | rfl | rfl | rfl | rfl | rfl | rfl | rfl
  · exact ⟨_, rfl, .inl (.inl ⟨hdE (by decide +kernel), .inl n2⟩)⟩
  · exact ⟨_, rfl, .inl (.inl ⟨hdE (by decide +kernel), .inl n1⟩)⟩
  · exact ⟨_, rfl, .inl (.inr ⟨noE (by decide +kernel), rfl⟩)⟩
  · exact ⟨_, rfl, .inr ⟨fun _ q => (nomatch q), p3⟩⟩
  · exact ⟨_, rfl, .inl (.inr ⟨noE (by decide +kernel), rfl⟩)⟩
  · exact ⟨_, rfl, .inl (.inr ⟨noE (by decide +kernel), rfl⟩)⟩
  · exact ⟨_, rfl, .inr ⟨fun _ q => (nomatch q), d3⟩⟩
  · exact ⟨_, rfl, .inr ⟨fun _ q => (nomatch q), d1⟩⟩
theorem tabE {T : Str → Str → Option Nat} {cl : Nat} (hS : Sets gE sE N F W) (hT : TabOf gE N F W T cl) : ∀ e ∈ wantE, T e.1 e.2.1 = some e.2.2 := fun e he => by
  obtain ⟨r, h1, h2⟩ := lowE hS e he
  obtain ⟨j', h3⟩ := hT.b _ _ _ _ h1 h2
  obtain ⟨r', h4, h5⟩ := hT.a _ _ _ h3
  have hj : j' < 8 := (List.getElem?_eq_some_iff.mp h4).1
  rw [h3, chkT e he j' (List.mem_range.mpr hj) _ h4 rfl (upP hS (List.mem_of_getElem? h4) h5)]
end

/-! the parse, step by step: the stack (its top first), the place, the steps so far -/
def toksE : List Str := [tn, tp, tn, tm, tn]
def lookE (x y : Str) : Option Nat := (wantE.find? fun e => e.1 == x && e.2.1 == y).map (·.2.2)
def stepE : List Str × Nat × List Int → List Str × Nat × List Int
  | (x :: stk, p, is) => match lookE x ((toksE ++ [dol]).getD p dol) with
    | some j => ((gE.getD j (dol, [])).2 ++ stk, p, is ++ [(j : Int)])
    | none => (stk, p + 1, is)
  | t => t
def trE : Nat → List Str × Nat × List Int
  | 0 => ([sE, dol], 0, [])
  | n + 1 => stepE (trE n)
def stepsE : List Int := [0, 3, 7, 5, 1, 3, 7, 4, 7, 5, 2]
theorem trE_end : trE 17 = ([], 6, stepsE) := by decide +kernel
theorem trE_short : ∀ n ∈ List.range 18, (trE n).1.length ≤ 20 ∧ (trE n).2.1 ≤ 6 ∧ (trE n).2.2.length ≤ 20 := by decide +kernel
def chkE (n : Nat) : Bool := match trE n with
  | (x :: stk, p, is) => decide (p ≤ 5) && (match (toksE ++ [dol])[p]? with
    | some y => if x ∈ hsE then wantE.any fun e => decide (e.1 = x) && decide (e.2.1 = y) && (match gE[e.2.2]? with
        | some hr => decide (hr.1 = x) && decide (trE (n + 1) = (hr.2 ++ stk, p, is ++ [(e.2.2 : Int)]))
        | none => false)
      else decide (x = y) && decide (trE (n + 1) = (stk, p + 1, is))
    | none => false)
  | ([], _, _) => false
theorem chkE_all : ∀ n ∈ List.range 17, chkE n = true := by decide +kernel
theorem turnE {n : Nat} (hn : n < 17) : ∃ x stk p is y, trE n = (x :: stk, p, is) ∧ p ≤ 5 ∧ (toksE ++ [dol])[p]? = some y ∧
    ((x ∈ hsE ∧ ∃ j r, (x, y, j) ∈ wantE ∧ gE[j]? = some (x, r) ∧ trE (n + 1) = (r ++ stk, p, is ++ [(j : Int)])) ∨ (x ∉ hsE ∧ x = y ∧ trE (n + 1) = (stk, p + 1, is))) := by
  have h := chkE_all n (List.mem_range.mpr hn)
  unfold chkE at h
  split at h
  · rename_i x stk p is e
    rw [Bool.and_eq_true] at h
    obtain ⟨h0, h⟩ := h
    split at h
    · rename_i y hy
      refine ⟨x, stk, p, is, y, e, of_decide_eq_true h0, hy, ?_⟩
      split at h
      · rename_i hx
        refine .inl ⟨hx, ?_⟩
        obtain ⟨⟨a, b, j⟩, hm, h'⟩ := List.any_eq_true.mp h
        clear h
        rw [Bool.and_eq_true, Bool.and_eq_true] at h'
        obtain ⟨⟨h1, h2⟩, h3⟩ := h'
        obtain rfl : a = x := of_decide_eq_true h1
        obtain rfl : b = y := of_decide_eq_true h2
        split at h3
        · rename_i hr hj
          rw [Bool.and_eq_true] at h3
          obtain ⟨z, r⟩ := hr
          obtain rfl : z = a := of_decide_eq_true h3.1
          exact ⟨j, r, hm, hj, of_decide_eq_true h3.2⟩
        · cases h3
      · rename_i hx
        rw [Bool.and_eq_true] at h
        exact .inr ⟨hx, of_decide_eq_true h.1, of_decide_eq_true h.2⟩
    · cases h
  · cases h

local macro_rules | `(tactic| walk_at "stp") => `(tactic| ((with_reducible refine slice_rev ?_); (try dsimp only)))
theorem TabP.list {σ : Hp} {a l : Addr} {ks : List Str} {T : Str → Str → Option Nat} {xs ys : List V} (h : TabP (own σ) a ks T) (hl : σ l = some (.list xs)) : TabP (own (upd σ l (.list ys))) a ks T := by
  obtain ⟨f, h1, h2, h3⟩ := h
  have h1 : σ a = _ := h1
  refine ⟨f, upd_ne (fun q => by rw [q, hl] at h1; cases h1) h1, fun k hk => ?_, h3⟩
  obtain ⟨r, ts, k1, k2⟩ := h2 k hk
  have k2 : σ r = _ := k2
  exact ⟨r, ts, k1, upd_ne (fun q => by rw [q, hl] at k2; cases k2) k2⟩
theorem getLast_rev {st : List Str} {x : Str} : (x :: st).reverse.map V.str = st.reverse.map V.str ++ [V.str x] := by simp

theorem spec_parse_sum (M : Mod) (hM : Ok M) (ag lt : Addr) :
    Spec M 8 (Str.ofString "parse_ll1") [.ref ag, .ref lt] (fun P => GramP P ag gE ∧ StrL P lt toksE) (fun v P => ∃ a, v = .ref a ∧ P a (.list (stepsE.map V.int))) := by
  have htab : Spec M 7 (Str.ofString "ll1_table") [.ref ag] (fun P => GramP P ag gE) (fun v P => ∃ t a T cl N F W, v = .ref t ∧ P t (.tuple [.ref a, .int (cl : Nat)]) ∧ TabP P a (headsOf gE) T ∧ Sets gE sE N F W ∧ TabOf gE N F W T cl) :=
    spec_ll1_table M hM sE [sT, sX] gE' ag (by decide +kernel)
  have hg0 : gE[0]? = some (sE, [sT, sX]) := rfl
  have hgl : gE.length = 8 := rfl
  have htl : toksE.length = 5 := rfl
  refine mkSpec hM.p 10 [Str.ofString "g", Str.ofString "tokens"] (by rfl) (by decide) (by decide) (by decide) (fun vals pm code doc h => by obtain ⟨a, b, rfl⟩ := two_val h; rfl) (by rfl) (by rfl) (by rfl) ?_ ?_ fun c L fa code I hpre Qf hQf => ?_
  · rintro A B h ⟨q1, q2⟩; exact ⟨GramP.mono A B h q1, h _ _ q2⟩
  · rintro v A B h ⟨a, e, q⟩; exact ⟨a, e, h _ _ q⟩
  have hpre' := hpre.1
  obtain ⟨⟨rs, q1, q2, q3⟩, q4⟩ := hpre
  obtain ⟨r0, hr0⟩ := get_same q2.symm hg0
  obtain ⟨lb0, k1, k2⟩ := q3 0 r0 _ hr0 hg0
  have hr0v : (rs.map V.ref)[(0 : Int).toNat]? = some (.ref r0) := by
    show (rs.map V.ref)[0]? = _
    rw [List.getElem?_map, hr0]; rfl
  have ho := I.env
  dsimp only [vars0] at ho I ⊢
  walk_at "run"
  refine call_def I (by rfl) (M.fn hM.p 9 (by rfl)) ?_
  walk_at "run"
  refine ⟨_, _, _, htab, by decide, GramP.mono _ _ (fun a o h => .inr h) hpre', fun v σ₁ _ hR => ?_⟩
  obtain ⟨t, la, T, cl, N, F, W, rfl, p1, p2, hS, hT⟩ := hR
  have p1 : σ₁ t = some (.tuple [.ref la, .int (cl : Nat)]) := p1
  have hTab := tabE hS hT
  walk_at "run"
  walk_at "op"
  walk_at "run"
  refine ⟨by simp, fun l1 hl1 => ?_⟩
  intro va vb ha hb
  refine op_addl (xs := toksE.map V.str) (ys := [V.str dol]) ha hb (.inr q4) (.inl upd_self) (by simp; omega) fun lu hlu => ?_
  walk_at "run"
  walk_at "op"
  walk_at "run"
  walk_at "op"
  walk_at "run"
  refine ⟨by simp, fun ls hls => ?_⟩
  walk_at "run"
  refine ⟨by simp, fun lp hlp => ?_⟩
  walk_at "run"
  refine call_len hM I (by rfl) ?_
  walk_at "run"
  refine ⟨lt, toksE.map V.str, rfl, .inl (.inr q4), by simp; omega, ?_⟩
  walk_at "run"
  walk_at "op"
  intro va vb ha hb
  refine op_mul ha hb (IntMulOk.of_left (by decide)) ?_
  walk_at "run"
  refine call_len hM I (by rfl) ?_
  walk_at "run"
  refine ⟨ag, rs.map V.ref, rfl, .inl (.inr q1), by simp; omega, ?_⟩
  walk_at "run"
  walk_at "op"
  intro va vb ha hb
  refine op_mul ha hb (IntMulOk.of_left (PySem.intBits_le_64 (by simp; omega) (by simp; omega))) ?_
  have hFi : (50 : Int) * (((toksE.map V.str).length : Nat) + 2) * (((rs.map V.ref).length : Nat) + 1) = 3150 - ((0 : Nat) : Int) := by
    rw [List.length_map, List.length_map, q2]; rfl
  rw [hFi]
  walk_at "stp"
  have o1 : upd (upd (upd (upd σ₁ l1 (O.list [V.str (Str.ofString "$")])) lu (O.list (List.map V.str toksE ++ [V.str dol]))) ls (O.list [V.str (Str.ofString "$"), V.str sE])) lp (O.list []) lu = some (.list ((toksE ++ [dol]).map V.str)) :=
    upd_new hlp (upd_new hls (by rw [upd_self, List.map_append]; rfl))
  have n1 : lu ≠ ls := ne_of_new hls upd_self
  have n2 : lp ≠ ls := Ne.symm (ne_of_new hlp upd_self)
  have n3 : lu ≠ lp := ne_of_new hlp (upd_new hls upd_self)
  refine while_ (fun k m σ => ∃ n ls, And14 (n + k = 17) (m (Str.ofString "g") = some (.ref ag)) (m (Str.ofString "table") = some (.ref la)) (m (Str.ofString "unread") = some (.ref lu)) (m (Str.ofString "place") = some (.int ((trE n).2.1 : Nat))) (m (Str.ofString "stack") = some (.ref ls)) (m (Str.ofString "steps") = some (.ref lp)) (m (Str.ofString "fuel") = some (.int (3150 - (n : Int)))) (σ lu = some (.list ((toksE ++ [dol]).map V.str))) (σ ls = some (.list ((trE n).1.reverse.map V.str))) (σ lp = some (.list ((trE n).2.2.map V.int))) (lu ≠ ls) (lp ≠ ls) (TabP (own σ) la (headsOf gE) T)) 17
    ⟨0, ls, by omega, by walk_at "vlook", by walk_at "vlook", by walk_at "vlook", (by show _ = some (V.int (0 : Int)); walk_at "vlook"), by walk_at "vlook", by walk_at "vlook", by walk_at "vlook", o1, upd_new hlp upd_self, upd_self, n1, n2,
      TabP.mono _ _ (fun a o h => upd_new hlp (upd_new hls (upd_new hlu (upd_new hl1 h)))) p2⟩ (fun k m σ hI Qz hQz => ?_)
  clear o1 n1 n2 hls hlp hlu hl1 p1 p2
  obtain ⟨n, ls, hnk, v1, v2, v3, v4, v5, v6, v7, o1, o2, o3, n1, n2, hTabP⟩ := hI
  obtain ⟨f, t1, t2, t3⟩ := hTabP
  have t1 : σ la = some (.dict (headsOf gE) f) := t1
  have hTabP : TabP (own σ) la (headsOf gE) T := ⟨f, t1, t2, t3⟩
  obtain ⟨z1, z2, z3⟩ := trE_short n (List.mem_range.mpr (by omega))
  walk_at "stp"
  refine call_len hM I (by rfl) ?_
  walk_at "run"
  refine ⟨ls, (trE n).1.reverse.map V.str, rfl, .inl (.inl o2), by simp; omega, ?_⟩
  walk_at "run"
  walk_at "op"
  refine ⟨_, rfl, fun hb => ?_, fun hb => ?_⟩
  · have hn : n < 17 := by
      rcases Nat.lt_or_ge n 17 with q | q
      · exact q
      · obtain rfl : n = 17 := by omega
        rw [trE_end] at hb; simp at hb
    obtain ⟨x, stk, p, is, y, he, hp5, hy, hcase⟩ := turnE hn
    obtain ⟨k, rfl⟩ : ∃ j, k = j + 1 := ⟨k - 1, by omega⟩
    obtain ⟨y1, y2, y3⟩ := trE_short (n + 1) (List.mem_range.mpr (by omega))
    rw [he] at o2 o3 v4 z1 z3
    dsimp only at o2 o3 v4 z1 z3
    rw [getLast_rev] at o2
    have hyv : ((toksE ++ [dol]).map V.str)[((p : Nat) : Int).toNat]? = some (.str y) := by rw [Int.toNat_natCast, List.getElem?_map, hy]; rfl
    have hp0 : (0 : Int) ≤ ((p : Nat) : Int) := by omega
    have hp63 : ((p : Nat) : Int) < 2 ^ 63 := by omega
    walk_at "stp"
    walk_at "stp"
    walk_at "run"
    walk_at "op"
    refine ⟨_, rfl, fun hb => ?_, fun hb => ?_⟩
    · exfalso
      have hb : (3150 : Int) - n = 0 := by simpa using hb
      omega
    · walk_at "run"
      walk_at "op"
      have hk1 : ((3150 : Int) - n) - 1 = 3150 - ((n + 1 : Nat) : Int) := by omega
      rw [hk1]
      walk_at "run"
      intro va ha
      refine op_neg ha ?_
      intro va vb ha hb
      refine sub_last ha hb (.inl o2) ?_
      walk_at "run"
      refine delete_ ?_
      walk_at "run"
      intro va ha
      refine op_neg ha ?_
      intro va vb ha hb
      have hsl : stk.length ≤ 1000 := by simp at z1; omega
      refine del_last ha hb o2 (by simpa using hsl) ?_
      have o1' : upd σ ls (.list (stk.reverse.map V.str)) lu = some (.list ((toksE ++ [dol]).map V.str)) := upd_ne n1 o1
      have o3' : upd σ ls (.list (stk.reverse.map V.str)) lp = some (.list (is.map V.int)) := upd_ne n2 o3
      have o2' : upd σ ls (.list (stk.reverse.map V.str)) ls = some (.list (stk.reverse.map V.str)) := upd_self
      have t1' : upd σ ls (.list (stk.reverse.map V.str)) la = some (.dict (headsOf gE) f) := upd_ne (fun q => by rw [q, o2] at t1; cases t1) t1
      have hTab' : TabP (own (upd σ ls (.list (stk.reverse.map V.str)))) la (headsOf gE) T := hTabP.list o2
      obtain ⟨_, t1₂, t2', _⟩ := hTab'
      have t1₂ : upd σ ls (.list (stk.reverse.map V.str)) la = _ := t1₂
      rw [t1'] at t1₂
      obtain rfl : f = _ := by injection t1₂ with q; injection q
      have hTab' : TabP (own (upd σ ls (.list (stk.reverse.map V.str)))) la (headsOf gE) T := hTabP.list o2
      clear t1₂ hTabP t1 t2 o1 o2 o3
      generalize upd σ ls (.list (stk.reverse.map V.str)) = σ at o1' o2' o3' t1' t2' hTab' ⊢
      walk_at "run"
      intro va vb ha hb
      refine op_in_dict ha hb (.inl t1') ⟨_, rfl, fun hb => ?_, fun hb => ?_⟩
      · -- the top is a head
        have hxh : x ∈ headsOf gE := Classical.byContradiction fun q => by rw [t3 x q] at hb; cases hb
        rcases hcase with ⟨_, j, r, hwant, hgj, htr⟩ | ⟨hxn, _⟩
        · obtain ⟨rr, ts, e1, e2⟩ := t2' x hxh
          have e2 : σ rr = some (.dict ts fun t => (T x t).map fun n => V.int (n : Nat)) := e2
          have hTj : T x y = some j := hTab _ hwant
          rw [htr] at y1
          dsimp only at y1
          walk_at "run"
          intro va vb ha hb
          refine sub_list ha hb (.inl o1') hp0 hp63 hyv ?_
          walk_at "run"
          intro va vb ha hb
          refine sub_dict ha hb (.inl t1') e1 ?_
          intro va vb ha hb
          refine op_notin_dict ha hb (.inl e2) ⟨_, rfl, fun hb => ?_, fun hb => ?_⟩
          · rw [hTj] at hb; cases hb
          obtain ⟨rj, hrj⟩ := get_same q2.symm hgj
          obtain ⟨lb, k1, k2⟩ := q3 j rj _ hrj hgj
          have hjl := (List.getElem?_eq_some_iff.mp hgj).1
          walk_at "run"
          intro va vb ha hb
          refine sub_dict ha hb (.inl t1') e1 ?_
          walk_at "run"
          intro va vb ha hb
          refine sub_list ha hb (.inl o1') hp0 hp63 hyv ?_
          intro va vb ha hb
          refine sub_dict ha hb (.inl e2) (v := .int (j : Nat)) (by simp [hTj]) ?_
          walk_at "run"
          refine ⟨lp, rfl, ⟨_, .inl o3'⟩, ?_⟩
          walk_at "run"
          refine ⟨_, o3', by simp; omega, rfl, ?_⟩
          have nlu : lu ≠ lp := n3
          have hap : is.map V.int ++ [V.int (j : Nat)] = (is ++ [(j : Int)]).map V.int := by simp
          rw [hap]
          have o1'' : upd σ lp (.list ((is ++ [(j : Int)]).map V.int)) lu = some (.list ((toksE ++ [dol]).map V.str)) := upd_ne nlu o1'
          have o2'' : upd σ lp (.list ((is ++ [(j : Int)]).map V.int)) ls = some (.list (stk.reverse.map V.str)) := upd_ne (Ne.symm n2) o2'
          have o3'' : upd σ lp (.list ((is ++ [(j : Int)]).map V.int)) lp = some (.list ((is ++ [(j : Int)]).map V.int)) := upd_self
          have hTab'' : TabP (own (upd σ lp (.list ((is ++ [(j : Int)]).map V.int)))) la (headsOf gE) T := hTab'.list o3'
          clear e2 o1' o2' o3' t1' t2' hTab'
          generalize upd σ lp (.list ((is ++ [(j : Int)]).map V.int)) = σ at o1'' o2'' o3'' hTab'' ⊢
          walk_at "run"
          intro va vb ha hb
          refine sub_list ha hb (.inr q1) (by omega) (by omega) (v := .ref rj) (by rw [Int.toNat_natCast, List.getElem?_map, hrj]; rfl) ?_
          walk_at "run"
          walk_at "op"
          walk_at "run"
          intro va ha
          refine op_neg ha ?_
          refine ⟨lb, r.map V.str, rfl, rfl, .inr k2, by simp at y1 ⊢; omega, fun lr hlr => ?_⟩
          intro va vb ha hb
          refine op_addl ha hb (.inl (upd_new hlr o2'')) (.inl upd_self) (by simp at y1 ⊢; omega) fun ln hln => ?_
          walk_at "run"
          have hup : ∀ a o, σ a = some o → upd (upd σ lr (.list (r.map V.str).reverse)) ln (.list (stk.reverse.map V.str ++ (r.map V.str).reverse)) a = some o := fun a o h => upd_new hln (upd_new hlr h)
          refine ⟨k, by omega, n + 1, ln, by omega, by walk_at "vlook", by walk_at "vlook", by walk_at "vlook", (by rw [htr]; walk_at "vlook"), by walk_at "vlook", by walk_at "vlook", by walk_at "vlook", hup _ _ o1'', by rw [upd_self, htr]; simp, (by rw [htr]; exact hup _ _ o3''), ne_of_new hln (upd_new hlr o1''), ne_of_new hln (upd_new hlr o3''), TabP.mono _ _ (fun a o h => hup a o h) hTab''⟩
        · exact absurd (headsE ▸ hxh) hxn
      · -- the top is no head
        have hxh : x ∉ headsOf gE := fun q => by obtain ⟨_, _, e1, _⟩ := t2' x q; rw [e1] at hb; cases hb
        rcases hcase with ⟨hxn, _⟩ | ⟨_, hxy, htr⟩
        · exact absurd (headsE ▸ hxn) hxh
        subst hxy
        walk_at "run"
        intro va vb ha hb
        refine sub_list ha hb (.inl o1') hp0 hp63 hyv ?_
        intro va vb ha hb
        refine op_eq_str ha hb ⟨_, rfl, fun hb => ?_, fun hb => ?_⟩
        · walk_at "run"
          walk_at "op"
          walk_at "run"
          have hp1 : ((p : Nat) : Int) + 1 = ((p + 1 : Nat) : Int) := by omega
          rw [hp1]
          refine ⟨k, by omega, n + 1, ls, by omega, by walk_at "vlook", by walk_at "vlook", by walk_at "vlook", (by rw [htr]; walk_at "vlook"), by walk_at "vlook", by walk_at "vlook", by walk_at "vlook", o1', by rw [htr]; exact o2', by rw [htr]; exact o3', n1, n2, hTab'⟩
        · simp at hb
  · have hn : n = 17 := by
      rcases Nat.lt_or_ge n 17 with q | q
      · obtain ⟨x, stk, p, is, y, he, _⟩ := turnE q
        rw [he] at hb; simp at hb
      · omega
    subst hn
    rw [trE_end] at o3 v4
    dsimp only at o3 v4
    walk_at "run"
    refine call_len hM I (by rfl) ?_
    walk_at "run"
    refine ⟨lu, _, rfl, .inl (.inl o1), by simp; omega, ?_⟩
    walk_at "op"
    refine ⟨_, rfl, fun hb => ?_, fun hb => ?_⟩
    · simp [htl] at hb
    · walk_at "run"
      exact ⟨_, rfl, lp, rfl, o3⟩

section
variable {c : Cx} {E : Value → Shared → Prop} {m : Vars} {σ : Hp} {env : Env} {x : Str} {pos : Pos} {v : V} {Q : V → Vars → Hp → Prop} {QF : Fl → Vars → Hp → Prop}
theorem op_in_str {i j : Str} {a b : Value} (ha : er a = .str i) (hb : er b = .str j) (h : Q (.bool (Txt.contains j i)) m σ) : Ev c E (compareOp .In a b) m σ Q := fun s S => by
  obtain ⟨t, rfl⟩ := er_str ha; obtain ⟨u, rfl⟩ := er_str hb
  exact P.in_str (done (val := .bool _) (.refl S) h)
end
/-- a symbol that a grammar may hold -/
def okSym (y : Str) : Bool := y != Str.ofString "" && y != Str.ofString "$" && y != Str.ofString "->" && !(Txt.contains y (Str.ofString " ")) && !(Txt.contains y (Str.ofString "\n"))
theorem spec_grammar_ok (M : Mod) (hM : Ok M) (g : G) (ag : Addr) (h0 : g ≠ []) (hz : g.length ≤ 50) (hb2 : ∀ x ∈ g, x.2.length ≤ 500) (hok : ∀ x ∈ g, ∀ y ∈ x.1 :: x.2, okSym y = true) :
    Spec M 2 (Str.ofString "grammar_ok") [.ref ag] (fun P => GramP P ag g) (fun v _ => v = .bool true) := by
  refine mkSpec hM.p 0 [Str.ofString "g"] (by rfl) (by decide) (by decide) (by decide) (fun vals pm code doc h => by obtain ⟨a, rfl, _⟩ := one_val h; rfl) (by rfl) (by rfl) (by rfl) ?_ ?_ fun c L fa code I hpre Qf hQf => ?_
  · exact GramP.mono
  · rintro v A B h q; exact q
  obtain ⟨rs, q1, q2, q3⟩ := hpre
  have hgl : 0 < g.length := List.length_pos_iff.mpr h0
  have ho := I.env
  dsimp only [vars0] at ho I ⊢
  walk_at "run"
  refine call_len hM I (by rfl) ?_
  walk_at "run"
  refine ⟨ag, rs.map V.ref, rfl, .inl (.inr q1), by simp; omega, ?_⟩
  walk_at "run"
  walk_at "op"
  refine ⟨_, rfl, fun hb => ?_, fun _ => ?_⟩
  · exfalso
    have hb : (((rs.map V.ref).length : Nat) : Int) = 0 := by simpa using hb
    rw [List.length_map, q2] at hb; omega
  walk_at "run"
  refine for_ I.room.1 (fun _ => .list ag (rs.map V.ref)) (fun _ i m σ => True)
      ?_ (fun _ i m σ _ => .inr q1) (fun _ i m σ u _ hu val hval Qz hQz => ?_) (fun _ m σ _ => ?_)
  · walk_at "stp"
    exact ⟨⟨rfl, .inr q1⟩, trivial⟩
  · obtain ⟨r, hr, rfl⟩ := map_get hu
    obtain ⟨⟨hd, bd⟩, hx⟩ := get_same q2 hr
    obtain ⟨b, k1, k2⟩ := q3 i r _ hr hx
    have hmem : (hd, bd) ∈ g := List.mem_of_getElem? hx
    have hbl := hb2 _ hmem
    have hoks := hok _ hmem
    dsimp only at hbl hoks
    refine asg_local ho (by rfl) hval ?_
    walk_at "stp"
    refine for_ I.room.1 (fun v => .list v.addr ((hd :: bd).map V.str)) (fun v j m σ => σ v.addr = some (.list ((hd :: bd).map V.str)))
      ?_ (fun v j m σ h => .inl h) (fun v j m σ u hI hu val hval Qz hQz => ?_) (fun v m σ hI => ?_)
    · walk_at "run"
      walk_at "op"
      walk_at "run"
      refine ⟨by simp, fun l1 hl1 => ?_⟩
      walk_at "run"
      walk_at "op"
      intro va vb ha hb
      refine op_addl (xs := [V.str hd]) (ys := bd.map V.str) ha hb (.inl upd_self) (.inr k2) (by simp; omega) fun l2 hl2 => ?_
      exact ⟨⟨rfl, .inl upd_self⟩, upd_self⟩
    · obtain ⟨y, hy, rfl⟩ := map_get (show ((hd :: bd).map V.str)[j]? = some u from hu)
      have hoky := hoks y (List.mem_of_getElem? hy)
      simp only [okSym, Bool.and_eq_true, bne_iff_ne, Bool.not_eq_true'] at hoky
      obtain ⟨⟨⟨⟨w1, w2⟩, w3⟩, w4⟩, w5⟩ := hoky
      refine asg_local ho (by rfl) hval ?_
      walk_at "run"
      walk_at "op"
      refine ⟨_, rfl, ⟨fun _ => ?_, fun hb => absurd (by simpa using hb) w1⟩⟩
      walk_at "run"
      walk_at "op"
      refine ⟨_, rfl, ⟨fun _ => ?_, fun hb => absurd (by simpa using hb) w2⟩⟩
      walk_at "run"
      walk_at "op"
      refine ⟨_, rfl, ⟨fun _ => ?_, fun hb => absurd (by simpa using hb) w3⟩⟩
      walk_at "run"
      refine ⟨fun h => (nomatch h), fun _ => ?_⟩
      walk_at "run"
      intro va vb ha hb
      refine op_in_str ha hb ⟨_, rfl, fun _ => ?_, fun hb => by rw [w4] at hb; cases hb⟩
      walk_at "run"
      intro va vb ha hb
      refine op_in_str ha hb ⟨_, rfl, fun _ => ?_, fun hb => by rw [w5] at hb; cases hb⟩
      walk_at "run"
      refine ⟨fun h => (nomatch h), fun _ => ?_⟩
      walk_at "run"
      exact hI
    · walk_at "run"
      exact trivial
  · walk_at "run"
    exact ⟨_, rfl, rfl⟩

section
variable {c : Cx} {E : Value → Shared → Prop} {m : Vars} {σ : Hp} {env : Env} {x : Str} {pos : Pos} {v : V} {Q : V → Vars → Hp → Prop} {QF : Fl → Vars → Hp → Prop}
theorem strValues_er (l : List (Str × Tok)) : (strValues l).map er = (l.map (·.1)).map V.str := by
  induction l with
  | nil => rfl
  | cons a l ih => show er _ :: (strValues l).map er = _; rw [ih]; rfl
theorem f_split {x y : Str} {t u : Tok} {ps : List Str} (hy : (y.length == 0) = false) (hx : x.length ≤ 1000) (hn : (Builtin.Str.partsBetween x (Builtin.Str.occurrences x y 0 x.length (x.length + 1)) y.length).length ≤ 1000) (hps : Txt.split x y = ps)
    (h : ∀ r, σ r = none → Q (.ref r) m (upd σ r (.list (ps.map V.str)))) : Ev c E (call (.builtin "str.split") [.str x t, .str y u]) m σ Q := fun s S => by
  have key : ∀ (l : List (Str × Tok)) (tk : Nat), l.map (·.1) = ps → ∃ m' σ', Pst c σ s m' σ' { s with heap := s.heap.push { cls := .type "list", data := .seq (strValues l).toArray }, toks := tk } ∧ Q (.ref s.heap.objs.size) m' σ' := fun l tk hl => by
    obtain ⟨p, hn⟩ := S.push (tk := tk) (x := { cls := .type "list", data := .seq (strValues l).toArray }) (o := .list (ps.map V.str)) ⟨_, _, IsL.new _ _, by show (strValues l).map er = _; rw [strValues_er, hl]⟩
    exact ⟨_, _, p, h _ hn⟩
  cases h1 : (decide (x.length < y.length) || decide (Builtin.Str.strKind x < Builtin.Str.strKind y))
  · cases hf : (Builtin.Str.occurrences x y 0 x.length (x.length + 1)).isEmpty
    · refine call_meets F.slot_str_split (typeIs_str _ _ _) F.entry_str_split (F.args_str_split_2 _ _) (meets_str_split_sep x y t u h1 hy hf (by rw [sizeLine_eq]; omega) (by rw [sizeLine_eq]; omega)) ?_
      show wants _ E _ { s with toks := _, heap := s.heap.push { cls := .type "list", data := .seq (strsFrom s.toks (Builtin.Str.partsBetween x (Builtin.Str.occurrences x y 0 x.length (x.length + 1)) y.length)).toArray } }
      rw [strsFrom_eq]
      exact key (numbered s.toks _) _ (((numbered_texts _ _).trans ((if_neg (ne_true_of_eq_false h1)).trans (if_neg (ne_true_of_eq_false hf))).symm).trans hps)
    · exact call_meets F.slot_str_split (typeIs_str _ _ _) F.entry_str_split (F.args_str_split_2 _ _) (meets_str_split_not_found x y t u h1 hy hf)
        (key [(x, t)] s.toks ((((if_neg (ne_true_of_eq_false h1)).trans (if_pos hf)).symm).trans hps))
  · exact call_meets F.slot_str_split (typeIs_str _ _ _) F.entry_str_split (F.args_str_split_2 _ _) (meets_str_split_cannot_occur x y t u h1)
      (key [(x, t)] s.toks ((if_pos h1).symm.trans hps))
theorem split_ {o e : Expr} {apos : Pos} {pl : Sem Bool} (h : Ev c E (eval o env) m σ fun ov m₁ σ₁ => ∃ x, ov = .str x ∧ Ev c E (eval e env) m₁ σ₁ fun v m₂ σ₂ => ∃ y ps, v = .str y ∧ (y.length == 0) = false ∧ x.length ≤ 1000 ∧
      (Builtin.Str.partsBetween x (Builtin.Str.occurrences x y 0 x.length (x.length + 1)) y.length).length ≤ 1000 ∧ Txt.split x y = ps ∧ ∀ r, σ₂ r = none → Q (.ref r) m₂ (upd σ₂ r (.list (ps.map V.str))))
    (hm : eval (.Call (.Attribute o (Str.ofString "split") apos) [e] [] pos) env = (do
      let ov ← eval o env
      standAt apos.atName
      let (f, first) ← holding [ov] (getMethod ov (Str.ofString "split") pl)
      callWith pos f first (backTo pos (starEach [e] env)) []) := by rfl)
    (he : starEach [e] env = (false, eval e env) :: starEach [] env := by rfl) : Ev c E (eval (.Call (.Attribute o (Str.ofString "split") apos) [e] [] pos) env) m σ Q := fun s S => by
  refine MethodCall_ (pl := pl) (W.step h S fun ov s₁ m₁ σ₁ p q => ?_) hm
  obtain ⟨x, e1, q⟩ := q
  obtain ⟨t, rfl⟩ := er_str e1
  refine GM.split ?_
  rw [he]
  show wpAny c.M c.A (callWith pos (.builtin "str.split") [.str x t] [(false, eval e env)] []) _ E s₁
  refine Calls.callWith_builtin rfl (Calls.evalArgs_plain (Calls.spliced_cons (W.step q p.st fun val s₂ m₂ σ₂ p₂ q₂ => Calls.spliced_nil ?_)))
  obtain ⟨y, ps, e2, h1, h2, h3, h4, h5⟩ := q₂
  obtain ⟨u, rfl⟩ := er_str e2
  exact W.step (f_split h1 h2 h3 h4 h5) p₂.st fun _ _ _ _ p₃ q₃ => done ((p.trans p₂).trans p₃) q₃
end

def linesE : List Str := [Str.ofString "E -> T X", Str.ofString "X -> + T X", Str.ofString "X ->", Str.ofString "T -> F Y", Str.ofString "Y -> * F Y", Str.ofString "Y ->", Str.ofString "F -> ( E )", Str.ofString "F -> n"]
abbrev spc : Str := Str.ofString " "
abbrev arw : Str := Str.ofString "->"
theorem lines_split : ∀ i ∈ List.range 8, (linesE.getD i spc).length ≤ 1000 ∧ (Builtin.Str.partsBetween (linesE.getD i spc) (Builtin.Str.occurrences (linesE.getD i spc) spc 0 (linesE.getD i spc).length ((linesE.getD i spc).length + 1)) spc.length).length ≤ 1000 ∧
    Txt.split (linesE.getD i spc) spc = (gE.getD i (spc, [])).1 :: arw :: (gE.getD i (spc, [])).2 := by decide +kernel
theorem line_at {i : Nat} (h : i < 8) : ∃ x hd bd, linesE[i]? = some x ∧ gE[i]? = some (hd, bd) ∧ x.length ≤ 1000 ∧ (Builtin.Str.partsBetween x (Builtin.Str.occurrences x spc 0 x.length (x.length + 1)) spc.length).length ≤ 1000 ∧ Txt.split x spc = hd :: arw :: bd := by
  have hl := lines_split i (List.mem_range.mpr h)
  have e1 : linesE[i]? = some (linesE.getD i spc) := by
    have : i < linesE.length := h
    simp [this]
  have e2 : gE[i]? = some (gE.getD i (spc, [])) := by
    have : i < gE.length := h
    simp [this]
  exact ⟨_, _, _, e1, e2, hl⟩
theorem okE : ∀ x ∈ gE, ∀ y ∈ x.1 :: x.2, okSym y = true := by decide +kernel
theorem shortE : ∀ x ∈ gE, x.2.length ≤ 3 := by decide +kernel

theorem spec_from_text (M : Mod) (hM : Ok M) (al : Addr) :
    Spec M 3 (Str.ofString "grammar_from_text") [.ref al] (fun P => StrL P al linesE) (fun v P => ∃ a, v = .ref a ∧ GramP P a gE) := by
  have hgl : gE.length = 8 := rfl
  have hll : linesE.length = 8 := rfl
  refine mkSpec hM.p 11 [Str.ofString "lines"] (by rfl) (by decide) (by decide) (by decide) (fun vals pm code doc h => by obtain ⟨a, rfl, _⟩ := one_val h; rfl) (by rfl) (by rfl) (by rfl) ?_ ?_ fun c L fa code I hpre Qf hQf => ?_
  · rintro A B h q; exact h _ _ q
  · rintro v A B h ⟨a, e, q⟩; exact ⟨a, e, GramP.mono A B h q⟩
  have hpre : (O.list (linesE.map V.str)).At c.prog c.w c.g al := hpre
  have ho := I.env
  dsimp only [vars0] at ho I ⊢
  walk_at "run"
  refine ⟨by simp, fun lg hlg => ?_⟩
  walk_at "stp"
  refine for_ I.room.1 (fun _ => .range 8) (fun _ i m σ => And3 (m (Str.ofString "lines") = some (.ref al)) (m (Str.ofString "g") = some (.ref lg)) (∃ rs : List Addr, And3 (σ lg = some (.list (rs.map V.ref))) (rs.length = i) (∀ (j : Nat) r x, rs[j]? = some r → gE[j]? = some x → RuleP (ownB σ lg) r x)))
      ?_ (fun _ i m σ _ => trivial) (fun _ i m σ u hI hu val hval Qz hQz => ?_) (fun _ m σ hI => ?_)
  · refine call_range hM I (by rfl) ?_
    walk_at "stp"
    refine call_len hM I (by rfl) ?_
    walk_at "run"
    refine ⟨al, linesE.map V.str, rfl, .inl (.inr hpre), by simp; omega, ?_⟩
    walk_at "run"
    refine ⟨_, rfl, fun r hr => ⟨⟨_, rfl, .inl ?_, by decide⟩, by walk_at "vlook", by walk_at "vlook", [], upd_new hr upd_self, rfl, fun j r x e => by simp at e⟩⟩
    rw [upd_self]; rfl
  · obtain ⟨v1, v2, rs, o1, hrl, hrs⟩ := hI
    have hi : i < 8 := by
      have := (List.getElem?_eq_some_iff.mp hu).1
      simpa [Src.items] using this
    obtain ⟨x, hd, bd, hx, hg, s1, s2, s3⟩ := line_at hi
    have hbl := shortE _ (List.mem_of_getElem? hg)
    dsimp only at hbl
    obtain rfl : V.int (i : Nat) = u := by
      have : ((List.range 8).map fun i => V.int (i : Nat))[i]? = some u := hu
      rw [List.getElem?_map, List.getElem?_range hi] at this
      exact Option.some.inj this
    have hxv : (linesE.map V.str)[((i : Nat) : Int).toNat]? = some (.str x) := by rw [Int.toNat_natCast, List.getElem?_map, hx]; rfl
    refine asg_local ho (by rfl) hval ?_
    walk_at "run"
    refine split_ ?_ (by rfl) (by rfl)
    walk_at "run"
    intro va vb ha hb
    refine sub_list ha hb (.inr hpre) (by omega) (by omega) hxv ?_
    refine ⟨x, rfl, ?_⟩
    walk_at "run"
    refine ⟨spc, _, rfl, by decide +kernel, s1, s2, s3, fun lw hlw => ?_⟩
    have ow : upd σ lw (.list ((hd :: arw :: bd).map V.str)) lw = some (.list ((hd :: arw :: bd).map V.str)) := upd_self
    walk_at "run"
    refine call_len hM I (by rfl) ?_
    walk_at "run"
    refine ⟨lw, (hd :: arw :: bd).map V.str, rfl, .inl (.inl ow), by simp; omega, ?_⟩
    walk_at "run"
    walk_at "op"
    refine ⟨_, rfl, fun _ => ?_, fun hb => ?_⟩
    · walk_at "run"
      intro va vb ha hb
      refine sub_list ha hb (.inl ow) (by decide) (by decide) (v := .str arw) rfl ?_
      walk_at "run"
      walk_at "op"
      refine ⟨_, rfl, fun _ => ?_, fun hb => absurd hb (by simp)⟩
      walk_at "run"
      refine ⟨fun h => (nomatch h), fun _ => ?_⟩
      walk_at "run"
      refine ⟨lg, rfl, ⟨_, .inl (upd_new hlw o1)⟩, ?_⟩
      walk_at "run"
      intro va vb ha hb
      refine sub_list ha hb (.inl ow) (by decide) (by decide) (v := .str hd) rfl ?_
      walk_at "run"
      refine ⟨lw, (hd :: arw :: bd).map V.str, 2, rfl, rfl, .inl ow, by simp; omega, fun lb hlb => ?_⟩
      walk_at "run"
      refine ⟨by simp, fun tt htt => ?_⟩
      have nb : lb ≠ lg := Ne.symm (ne_of_new hlb (upd_new hlw o1))
      have nt : tt ≠ lg := Ne.symm (ne_of_new htt (upd_new hlb (upd_new hlw o1)))
      refine ⟨rs.map V.ref, upd_new htt (upd_new hlb (upd_new hlw o1)), by simp; omega, rfl, ?_⟩
      walk_at "run"
      refine ⟨by walk_at "vlook", by walk_at "vlook", rs ++ [tt], by rw [upd_self]; simp, by simp [hrl], fun j r x h1 h2 => ?_⟩
      rcases get_snoc h1 with ⟨q, _⟩ | ⟨rfl, rfl⟩
      · exact (hrs j r x q h2).mono fun a o h => ⟨upd_ne h.2 (upd_new htt (upd_new hlb (upd_new hlw h.1))), h.2⟩
      · rw [hrl, hg] at h2
        cases h2
        exact ⟨lb, ⟨upd_ne nt upd_self, nt⟩, ⟨upd_ne nb (upd_new htt upd_self), nb⟩⟩
    · exfalso
      simp at hb
      omega
  · obtain ⟨v1, v2, rs, o1, hrl, hrs⟩ := hI
    have hlen : (Src.range 8).items.length = 8 := by simp [Src.items]
    rw [hlen] at hrl
    have hG : GramP (own σ) lg gE := ⟨rs, o1, hrl, fun j r x e1 e2 => (hrs j r x e1 e2).mono fun a o h => h.1⟩
    walk_at "run"
    refine call_def I (by rfl) (M.fn hM.p 0 (by rfl)) ?_
    walk_at "run"
    refine ⟨_, _, _, spec_grammar_ok M hM gE lg (by decide) (by omega) (fun x hx => by have := shortE x hx; omega) okE, by decide, GramP.mono _ _ (fun a o h => .inl h) hG, fun v σ₂ hext hR => ?_⟩
    subst hR
    refine ⟨_, rfl, fun hb => (nomatch hb), fun _ => ?_⟩
    walk_at "run"
    exact ⟨_, rfl, lg, rfl, GramP.mono _ _ (fun a o h => hext a o h) hG⟩

/-- a def called with no argument -/
theorem call_def0 {M : Mod} {c : Cx} {E : Value → Shared → Prop} {m : Vars} {σ : Hp} {env : Env} {pos : Pos} {Q : V → Vars → Hp → Prop} {f : Str} {np : Pos} {k n : Nat} {Pre : Vw → Prop} {R : V → Vw → Prop} (I : In M c env k) (hk : env.kindOf f = some .globalImplicit) (hF : Fn M f)
    (S : Spec M n f [] Pre R) (hn : n ≤ k) (hpre : Pre (Sees c σ)) (q : ∀ v σ₂, (∀ a o, σ a = some o → σ₂ a = some o) → R v (own σ₂) → Q v m σ₂)
    (he' : eval (.Call (.Name f np) [] [] pos) env = (do callWith pos (← eval (.Name f np) env) [] (backTo pos (starEach [] env)) (backToKw pos (keywordEach [] env))) := by rfl)
    (hd : (f == ("__debug__" : Str)) = false := by decide) : Ev c E (eval (.Call (.Name f np) [] [] pos) env) m σ Q := fun s St₀ => by
  obtain ⟨fa, o, fd, hmg, ho, hdat⟩ := hF c.g I.top
  refine Call_ ?_ he'
  refine Name_function_global I.env.kind hk (loadGlobal_global (I.env.glob ▸ I.top.g.keeps St₀.keep) hmg ?_) hd
  refine callWith_function (o := o) (fd := fd) (evalArgs_nil3 ⟨⟨St₀.keep _ _ ho, hdat⟩, ?_⟩)
  have hpre' : Pre (fun a o => o.At M.p M.w s.heap a) := S.mono _ _ (fun a o hs => by have := Sees.at hs St₀; rw [I.p, I.w] at this; exact this) hpre
  have hrun := S.run c.A s fa [] (I.room.less hn) (I.top.keeps St₀.keep) hmg rfl hpre' St₀.gens
  have hM : c.M = model M.p M.w := by unfold Cx.M; rw [I.p, I.w]
  refine wpAny_call (codeAny_mono (by rw [hM]; exact hrun) fun r s' hr => ?_)
  obtain ⟨v, σ', rfl, k1, k2, k3, k4, k5⟩ := hr
  have p₂ : Pst c σ s m (merge σ σ') s' := by
    have hnew : ∀ a o, σ' a = some o → a ≠ c.L ∧ c.g.get? a = none ∧ σ a = none := fun a o e => St₀.hole (k4 a o e).2
    refine ⟨⟨?_, fun b o e => k1 b o (St₀.keep b o e), fun a o e => ?_, St₀.above, k2, k3.trans St₀.os⟩, fun b o _ _ e => k1 b o e, fun b o e h2 => ?_⟩
    · obtain ⟨m', h1, h2⟩ := St₀.ns
      exact ⟨m', h1.keeps k1, h2⟩
    · unfold merge at e
      cases h1 : σ a with
      | some o' =>
        rw [h1] at e
        cases e
        obtain ⟨q1, q2⟩ := St₀.own a o h1
        exact ⟨q1.keeps fun y hy => k1 a y hy, q2⟩
      | none =>
        rw [h1] at e
        have e : σ' a = some o := e
        refine ⟨?_, (hnew a o e).1, (hnew a o e).2.1⟩
        rw [I.p, I.w]; exact (k4 a o e).1
    · unfold merge at e
      rw [h2] at e
      exact (k4 b o e).2
  refine done p₂ (q _ _ (fun a o e => by unfold merge; rw [e]; rfl) (S.monoR _ _ _ (fun a o e => ?_) k5))
  have := (St₀.hole (k4 a o e).2).2.2
  show merge σ σ' a = some o
  unfold merge; rw [this]; exact e
theorem no_val {vals : List Value} (h : vals.map er = []) : vals = [] := by simpa using h

theorem spec_expr_grammar (M : Mod) (hM : Ok M) : Spec M 4 (Str.ofString "the_expression_grammar") [] (fun _ => True) (fun v P => ∃ a, v = .ref a ∧ GramP P a gE) := by
  refine mkSpec hM.p 12 [] (by rfl) (by decide) (by decide) (by decide) (fun vals pm code doc h => by obtain rfl := no_val h; rfl) (by rfl) (by rfl) (by rfl) ?_ ?_ fun c L fa code I hpre Qf hQf => ?_
  · intro _ _ _ q; exact q
  · rintro v A B h ⟨a, e, q⟩; exact ⟨a, e, GramP.mono A B h q⟩
  have ho := I.env
  dsimp only [vars0] at ho I ⊢
  walk_at "run"
  refine call_def I (by rfl) (M.fn hM.p 11 (by rfl)) ?_
  walk_at "run"
  refine ⟨by simp, fun al hal => ?_⟩
  walk_at "run"
  refine ⟨_, _, _, spec_from_text M hM al, by decide, .inl upd_self, fun v σ₂ hext hR => ?_⟩
  exact hQf.go <| ⟨_, rfl, hR⟩

theorem spec_sum (M : Mod) (hM : Ok M) : Spec M 9 (Str.ofString "a_parse_of_a_sum") [] (fun _ => True) (fun v P => ∃ a, v = .ref a ∧ P a (.list (stepsE.map V.int))) := by
  refine mkSpec hM.p 13 [] (by rfl) (by decide) (by decide) (by decide) (fun vals pm code doc h => by obtain rfl := no_val h; rfl) (by rfl) (by rfl) (by rfl) ?_ ?_ fun c L fa code I hpre Qf hQf => ?_
  · intro _ _ _ q; exact q
  · rintro v A B h ⟨a, e, q⟩; exact ⟨a, e, h _ _ q⟩
  have ho := I.env
  dsimp only [vars0] at ho I ⊢
  walk_at "run"
  refine call_def I (by rfl) (M.fn hM.p 10 (by rfl)) ?_
  walk_at "stp"
  refine call_def0 I (by rfl) (M.fn hM.p 12 (by rfl)) (spec_expr_grammar M hM) (by decide) trivial fun v σ₂ hext hR => ?_
  obtain ⟨ag, rfl, hG⟩ := hR
  walk_at "run"
  refine ⟨by simp, fun lt hlt => ?_⟩
  walk_at "run"
  refine ⟨_, _, _, spec_parse_sum M hM ag lt, by decide, ⟨GramP.mono _ _ (fun a o h => .inl (upd_new hlt h)) hG, .inl upd_self⟩, fun v σ₃ hext3 hR => ?_⟩
  exact hQf.go <| ⟨_, rfl, hR⟩

theorem f_len_arr {c : Cx} {E : Value → Shared → Prop} {m : Vars} {σ : Hp} {Q : V → Vars → Hp → Prop} {vals : List Value} {l : Addr} {xs : List V} (hv : vals.map er = [.ref l]) (hl : Sees c σ l (.arr xs)) (hz : xs.length ≤ 1000) (h : Q (.int (xs.length : Nat)) m σ) : Ev c E (call (.builtin "len") vals) m σ Q := fun s S => by
  obtain ⟨a, rfl, e⟩ := one_val hv
  obtain rfl := er_ref e
  obtain ⟨items, h1, h2⟩ := hl.at S
  have e1 : items.size = xs.length := by simpa using congrArg List.length h2
  exact call_len_list h1 (by omega) (done (S.toks _) (by rw [e1]; exact h))
theorem call_len_arr {M : Mod} {c : Cx} {E : Value → Shared → Prop} {m : Vars} {σ : Hp} {Q : V → Vars → Hp → Prop} {env : Env} {pos : Pos} {n : Nat} {e : Expr} {np : Pos} (hM : Ok M) (I : In M c env n) (hk : env.kindOf (Str.ofString "len") = some .globalImplicit)
    (h : Evs c E (spliced (backTo pos (starEach [e] env))) m σ fun vs m₁ σ₁ => ∃ l xs, vs = [.ref l] ∧ Sees c σ₁ l (.arr xs) ∧ xs.length ≤ 1000 ∧ Q (.int (xs.length : Nat)) m₁ σ₁)
    (he' : eval (.Call (.Name (Str.ofString "len") np) [e] [] pos) env = (do callWith pos (← eval (.Name (Str.ofString "len") np) env) [] (backTo pos (starEach [e] env)) (backToKw pos (keywordEach [] env))) := by rfl)
    (he : starEach [e] env = (false, eval e env) :: starEach [] env := by rfl) : Ev c E (eval (.Call (.Name (Str.ofString "len") np) [e] [] pos) env) m σ Q :=
  call_blt (name_blt hM I hk (by decide) (val := .builtin "len") (by decide +kernel) (by decide) ⟨"len", rfl, W.mono h fun vs m₁ σ₁ ⟨l, ss, h1, h2, h3, h4⟩ vals hv => f_len_arr (hv.trans h1) h2 h3 h4⟩) he' he rfl

def cellOf (xs : List Int) (i : Nat) : Int := xs.getD i 0
theorem spec_cell (M : Mod) (hM : Ok M) (xs : List Int) (i : Nat) (ls : Addr) (hz : xs.length ≤ 900) (hi : i ≤ 900) :
    Spec M 1 (Str.ofString "_law_cell") [.ref ls, .int (i : Nat)] (fun P => P ls (.arr (xs.map V.int))) (fun v _ => v = .int (cellOf xs i)) := by
  refine mkSpec hM.p 14 [Str.ofString "script", Str.ofString "i"] (by rfl) (by decide) (by decide) (by decide) (fun vals pm code doc h => by obtain ⟨a, b, rfl⟩ := two_val h; rfl) (by rfl) (by rfl) (by rfl) ?_ ?_ fun c L fa code I hpre Qf hQf => ?_
  · rintro A B h q; exact h _ _ q
  · rintro v A B h q; exact q
  have ho := I.env
  dsimp only [vars0] at ho I ⊢
  walk_at "run"
  refine call_len_arr hM I (by rfl) ?_
  walk_at "run"
  refine ⟨ls, _, rfl, .inr hpre, by simp; omega, ?_⟩
  walk_at "op"
  refine ⟨_, rfl, fun hb => ?_, fun hb => ?_⟩
  · have hb : i < xs.length := by simpa using hb
    walk_at "run"
    intro va vb ha hb'
    refine sub_arr ha hb' (.inr hpre) (by omega) (by omega) (v := .int (cellOf xs i)) ?_ ?_
    · rw [Int.toNat_natCast, List.getElem?_map]
      simp [cellOf, hb]
    · walk_at "run"
      exact ⟨_, rfl, rfl⟩
  · have hb : ¬ i < xs.length := by simpa using hb
    walk_at "run"
    refine ⟨_, rfl, ?_⟩
    have : cellOf xs i = 0 := by
      unfold cellOf
      rw [List.getD_eq_getElem?_getD, List.getElem?_eq_none (by omega)]; rfl
    rw [this]


section
variable {c : Cx} {E : Value → Shared → Prop} {m : Vars} {σ : Hp} {env : Env} {x y : Str} {pos : Pos} {v : V} {Q : V → Vars → Hp → Prop} {QF : Fl → Vars → Hp → Prop}
theorem sub_tup {value slice : Expr} {xs : List V} {i : Int} {l : Addr} {a b : Value} (ha : er a = .ref l) (hb : er b = .int i) (hl : Sees c σ l (.tup xs)) (h0 : 0 ≤ i) (h63 : i < 2 ^ 63) (hv : xs[i.toNat]? = some v) (h : Q v m σ)
    (hs : ∀ t, subscripted slice false (.ref l) (.int i t) = operate [.ref l, .int i t] (getItem (.ref l) (.int i t)) := by intro _; with_unfolding_all rfl) : Ev c E (subscriptTail value slice a b) m σ Q := fun s S => by
  obtain ⟨t, rfl⟩ := er_int hb; obtain rfl := er_ref ha
  obtain ⟨items, n, o, h1, h2, h3, h4⟩ := hl.at S
  obtain ⟨val, h5, h6⟩ := item_at h4 hv
  have hlt : i.toNat < items.toList.length := (List.getElem?_eq_some_iff.mp h5).1
  refine item_tupleT (l := items.toList) (j := i.toNat) ⟨o, h1, h2, n, by simpa using h3⟩ (by omega) h63 ?_ h5 (done (.refl S) (h6 ▸ h)) (hs t)
  exact seqIndex_of h0 (by omega)
theorem assign_pair_t {px py tp : Pos} {k : Nat} {value : Expr} (ho : EnvOk c env) (hh : c.A.handled = none) (hx : env.kindOf x = some .local) (hy : env.kindOf y = some .local)
    (h : Ev c E (eval value env) m σ fun v m₁ σ₁ => ∃ t u w, v = .ref t ∧ Sees c σ₁ t (.tup [u, w]) ∧ QF .next (upd (upd m₁ x u) y w) σ₁)
    (hs : swapsWithSole [.Tuple [.Name x px, .Name y py] k tp] value pos.line env = pure false := by rfl) (hw : swappedStores [.Tuple [.Name x px, .Name y py] k tp] value env = pure none := by rfl) :
    X c E (exec (.Assign [.Tuple [.Name x px, .Name y py] k tp] value pos) env) m σ QF := fun s S => by
  refine Assign_Tuple (W.step h S fun val s₁ m₁ σ₁ p q => ?_) hs hw
  obtain ⟨t, u, w, e1, hs1, q⟩ := q
  obtain rfl := er_ref e1
  obtain ⟨items, n, o, h1, h2, h3, h4⟩ := hs1.at p.st
  obtain ⟨items⟩ := items
  obtain ⟨a, b, rfl⟩ := two_val (show items.map er = [u, w] from h4)
  · skip
    have ha : er a = u := by simpa using (List.cons.inj h4).1
    have hb : er b = w := by simpa using (List.cons.inj (List.cons.inj h4).2).1
    refine assign_Tuple_tuple hh ⟨_, h1, h2, n, h3⟩ (by rfl) (by rfl) fun h' he => ?_
    have p₂ := p.st.keeps (tk := s₁.toks) (fun b o e => he b o (Nat.ne_of_lt (Heap.lt_size e)) e)
    show wpAny c.M c.A (do holding [b] (assign (.Name x px) env a); holding [] (assign (.Name y py) env b); pure ()) _ E _
    refine wpAny_bind (wpAny_holding (W.step (asg_local (QU := fun _ m' σ' => m' = upd m₁ x u ∧ σ' = σ₁) ho hx ha ⟨rfl, rfl⟩) p₂.st fun _ s₃ m₃ σ₃ p₃ q₃ => ?_))
    obtain ⟨rfl, rfl⟩ := q₃
    refine wpAny_bind (wpAny_holding (W.step (asg_local (QU := fun _ m' σ' => m' = upd (upd m₁ x u) y w ∧ σ' = σ₃) ho hy hb ⟨rfl, rfl⟩) p₃.st fun _ s₄ m₄ σ₄ p₄ q₄ => ?_))
    obtain ⟨rfl, rfl⟩ := q₄
    exact wpAny_pure ⟨_, _, ((p.trans p₂).trans p₃).trans p₄, q⟩
theorem op_adds {i j : Str} {a b : Value} (ha : er a = .str i) (hb : er b = .str j) (hz : i.length + j.length ≤ 1000) (h : Q (.str (i ++ j)) m σ) : Ev c E (binaryOp .Add a b) m σ Q := fun s S => by
  obtain ⟨t, rfl⟩ := er_str ha; obtain ⟨u, rfl⟩ := er_str hb
  exact P.add_str (SB.post_add (by rw [sizeLine_eq]; omega) fun t' k => done (val := .str _ t') (S.toks k) h)
theorem sub_str {value slice : Expr} {u : Str} {i : Int} {a b : Value} (ha : er a = .str u) (hb : er b = .int i) (h0 : 0 ≤ i) (h1 : i < u.length) (hz : u.length ≤ 1000) (h : Q (.str (Txt.item u i)) m σ)
    (hs : ∀ t t', subscripted slice false (.str u t) (.int i t') = operate [.str u t, .int i t'] (getItem (.str u t) (.int i t')) := by intro _ _; with_unfolding_all rfl) : Ev c E (subscriptTail value slice a b) m σ Q := fun s S => by
  obtain ⟨t, rfl⟩ := er_str ha; obtain ⟨t', rfl⟩ := er_int hb
  refine tail_any (typeIs_str _ _ _) F.slot_str_getitem.lookup (SB.getItem (by unfold fitsSsize; simp; omega) (charAt_isSome (by omega) h1) (done (val := .str _ _) (S.toks _) h)) (hs t t')
theorem slice_str {value lo : Expr} {p : Pos} (h : Ev c E (eval value env) m σ fun ov m₁ σ₁ => Ev c E (eval lo env) m₁ σ₁ fun iv m₂ σ₂ => ∃ u i, ov = .str u ∧ iv = .int i ∧ u.length ≤ 1000 ∧ Q (.str (Txt.slice u (some i) none)) m₂ σ₂) :
    Ev c E (eval (.Subscript value (.Slice (some lo) none none p) pos) env) m σ Q := fun s S => by
  refine Subscript_ (W.step h S fun ov s₁ m₁ σ₁ p q => wpAny_Slice (W.step q p.st fun iv s₂ m₂ σ₂ p₂ q₂ => ?_))
  obtain ⟨u, i, e1, e2, hz, q₂⟩ := q₂
  obtain ⟨t, rfl⟩ := er_str e1
  obtain ⟨t', rfl⟩ := er_int e2
  rw [evalPart_none]
  refine wpAny_pure (wpAny_pure ?_)
  obtain ⟨T, id, hl, hT, hg⟩ := SBH.sliceItem_sn (prog := c.prog) (w := c.w) (A := c.A) (E := E) (s := s₂) (x := u) (t := t) (i := i) (ui := t') (P := fun h => ∀ b o, s₂.heap.get? b = some o → h.get? b = some o)
    (Q := fun val s' => ∃ m' σ', Pst c σ s m' σ' s' ∧ Q (er val) m' σ') (fun h ob hh b o e => Heap.get?_push_of_some _ (hh b o e)) (fun b o e => e) (fun h' t' k hk => done (val := .str _ t') ((p.trans p₂).trans (p₂.st.keeps hk)) q₂) (by rw [sizeLine_eq]; omega)
  exact tail_any (ops := [.ref s₂.heap.objs.size, .str u t]) hT hl hg (by with_unfolding_all rfl)
theorem op_is_same {x : String} {a b : Value} (ha : er a = .ty x) (hb : er b = .ty x) (h : Q (.bool true) m σ) : Ev c E (compareOp .Is a b) m σ Q := fun s S => by
  rw [er_ty ha, er_ty hb]
  exact wpAny_is_self rfl (done (val := .bool true) (.refl S) h)
theorem op_isnot_same {x : String} {a b : Value} (ha : er a = .ty x) (hb : er b = .ty x) (h : Q (.bool false) m σ) : Ev c E (compareOp .IsNot a b) m σ Q := fun s S => by
  rw [er_ty ha, er_ty hb]
  exact isnot_type_same (done (val := .bool false) (.refl S) h)
theorem call_type_int {M : Mod} {np : Pos} {n : Nat} {e : Expr} (hM : Ok M) (I : In M c env n) (hk : env.kindOf (Str.ofString "type") = some .globalImplicit)
    (h : Evs c E (spliced (backTo pos (starEach [e] env))) m σ fun vs m₁ σ₁ => ∃ b, vs = [.int b] ∧ Q (.ty "int") m₁ σ₁)
    (he' : eval (.Call (.Name (Str.ofString "type") np) [e] [] pos) env = (do callWith pos (← eval (.Name (Str.ofString "type") np) env) [] (backTo pos (starEach [e] env)) (backToKw pos (keywordEach [] env))) := by rfl)
    (he : starEach [e] env = (false, eval e env) :: starEach [] env := by rfl) : Ev c E (eval (.Call (.Name (Str.ofString "type") np) [e] [] pos) env) m σ Q :=
  call_typ (name_blt hM I hk (by decide) (val := .type "type") (by decide +kernel) (by decide) ⟨"type", rfl, W.mono h fun vs m₁ σ₁ ⟨b, h1, h2⟩ vals hv s S => by
    obtain ⟨a, rfl, e⟩ := one_val (hv.trans h1)
    obtain ⟨t, rfl⟩ := er_int e
    exact call_type_of (Tx := "int") rfl (by decide) (done (val := .type "int") (.refl S) h2)⟩) he' he rfl
theorem call_type_list {M : Mod} {np : Pos} {n : Nat} {e : Expr} (hM : Ok M) (I : In M c env n) (hk : env.kindOf (Str.ofString "type") = some .globalImplicit)
    (h : Evs c E (spliced (backTo pos (starEach [e] env))) m σ fun vs m₁ σ₁ => ∃ l xs, vs = [.ref l] ∧ Sees c σ₁ l (.list xs) ∧ Q (.ty "list") m₁ σ₁)
    (he' : eval (.Call (.Name (Str.ofString "type") np) [e] [] pos) env = (do callWith pos (← eval (.Name (Str.ofString "type") np) env) [] (backTo pos (starEach [e] env)) (backToKw pos (keywordEach [] env))) := by rfl)
    (he : starEach [e] env = (false, eval e env) :: starEach [] env := by rfl) : Ev c E (eval (.Call (.Name (Str.ofString "type") np) [e] [] pos) env) m σ Q :=
  call_typ (name_blt hM I hk (by decide) (val := .type "type") (by decide +kernel) (by decide) ⟨"type", rfl, W.mono h fun vs m₁ σ₁ ⟨l, xs, h1, h2, h3⟩ vals hv s S => by
    obtain ⟨a, rfl, e⟩ := one_val (hv.trans h1)
    obtain rfl := er_ref e
    obtain ⟨items, n, k1, _⟩ := h2.at S
    exact call_type_of (Tx := "list") k1.isList.typeIs (by decide) (done (val := .type "list") (.refl S) h3)⟩) he' he rfl
theorem ne_ints {s : Shared} {l k : Addr} {ss : List Int} (A : Around) (hu : A.units < cLine) (hl : (O.list (ss.map V.int)).At c.prog c.w s.heap l) (hk : (O.list (ss.map V.int)).At c.prog c.w s.heap k) :
    RcNeAt A s (.ref l) (.ref k) false := by
  obtain ⟨xs, n, h1, h2⟩ := hl
  obtain ⟨ys, n', h3, h4⟩ := hk
  have l1 : xs.size = ss.length := by simpa using congrArg List.length h2
  have l2 : ys.size = ss.length := by simpa using congrArg List.length h4
  have he : ∀ j (p : j < xs.size) (q : j < ys.size), EqAt A.in1 s xs[j] ys[j] true := by
    intro j p q
    have e1 : (xs.toList.map er)[j]? = (ss.map V.int)[j]? := by rw [h2]
    have e2 : (ys.toList.map er)[j]? = (ss.map V.int)[j]? := by rw [h4]
    have hp : j < ss.length := by omega
    simp [p, q, hp] at e1 e2
    obtain ⟨t, e1⟩ := er_int e1
    obtain ⟨u, e2⟩ := er_int e2
    rw [e1, e2]
    have := EqAt.int_int (A := A.in1) (s := s) ss[j] t ss[j] u
    simpa using this
  have := RcNeAt.lists (e := fun _ => true) h1.isList h3.isList (l1.trans l2.symm) hu he
  have e : (!(List.range xs.size).all fun _ => true) = false := by simp
  rwa [e] at this
theorem op_ne_ints {ss : List Int} {l k : Addr} {a b : Value} (hu : c.A.units < cLine) (ha : er a = .ref l) (hb : er b = .ref k) (hl : Sees c σ l (.list (ss.map V.int))) (hk : Sees c σ k (.list (ss.map V.int)))
    (h : Q (.bool false) m σ) : Ev c E (compareOp .NotEq a b) m σ Q := fun s S => by
  obtain rfl := er_ref ha; obtain rfl := er_ref hb
  exact (ne_ints c.A hu (hl.at S) (hk.at S)) _ _ _ _ (done (val := .bool _) (.refl S) h)
end

/-! the law's tables -/
def rulesE : List (Str × Str) := [(sE, Str.ofString "TX"), (sX, Str.ofString "+TX"), (sX, Str.ofString ""), (sT, Str.ofString "FY"), (sY, Str.ofString "*FY"), (sY, Str.ofString ""), (sF, Str.ofString "(E)"), (sF, Str.ofString "n")]
def formsE : List (Str × Str) := [(Str.ofString "", Str.ofString "E"), (Str.ofString "", Str.ofString "TX"), (Str.ofString "", Str.ofString "FYX"), (Str.ofString "n", Str.ofString "YX"), (Str.ofString "n", Str.ofString "X"), (Str.ofString "n+", Str.ofString "TX"), (Str.ofString "n+", Str.ofString "FYX"), (Str.ofString "n+n", Str.ofString "YX"), (Str.ofString "n+n*", Str.ofString "FYX"), (Str.ofString "n+n*n", Str.ofString "YX"), (Str.ofString "n+n*n", Str.ofString "X"), (Str.ofString "n+n*n", Str.ofString "")]
def FormsP (P : Vw) (a : Addr) (L : List (Str × Str)) : Prop := ∃ rs : List Addr, P a (.tup (rs.map V.ref)) ∧ rs.length = L.length ∧ ∀ (i : Nat) r x, rs[i]? = some r → L[i]? = some x → P r (.tup [V.str x.1, V.str x.2])
theorem FormsP.mono {a : Addr} {L : List (Str × Str)} : Mono fun P => FormsP P a L := fun _ _ h ⟨rs, h1, h2, h3⟩ => ⟨rs, h _ _ h1, h2, fun i r x e1 e2 => h _ _ (h3 i r x e1 e2)⟩
theorem FormsP.get {P : Vw} {a : Addr} {L : List (Str × Str)} (h : FormsP P a L) {i : Nat} {x : Str × Str} (hx : L[i]? = some x) : ∃ rs : List Addr, ∃ r, P a (.tup (rs.map V.ref)) ∧ (rs.map V.ref)[((i : Nat) : Int).toNat]? = some (.ref r) ∧ P r (.tup [V.str x.1, V.str x.2]) := by
  obtain ⟨rs, h1, h2, h3⟩ := h
  obtain ⟨r, hr⟩ := get_same h2.symm hx
  exact ⟨rs, r, h1, by rw [Int.toNat_natCast, List.getElem?_map, hr]; rfl, h3 i r x hr hx⟩
def lawOk (k : Nat) : Bool := match formsE[k]?, stepsE[k]?, formsE[k + 1]? with
  | some f, some j, some a => match rulesE[j.toNat]? with
    | some r => decide (0 ≤ j) && decide (j < 8) && decide (1 ≤ f.2.length) && decide (f.2.length ≤ 10) && decide (f.1.length ≤ 10) && decide (r.2.length ≤ 10) && decide (a.1.length ≤ 10) && decide (a.2.length ≤ 10) && decide (Txt.item f.2 0 = r.1) && decide ((f.1 ++ r.2).length ≤ 20) && decide ((Txt.slice f.2 (some 1) none).length ≤ 10) && decide (f.1 ++ r.2 ++ Txt.slice f.2 (some 1) none = a.1 ++ a.2)
    | none => false
  | _, _, _ => false
theorem lawOk_all : ∀ k ∈ List.range 11, lawOk k = true := by decide +kernel
theorem law_at {k : Nat} (hk : k < 11) : ∃ f j a r, formsE[k]? = some f ∧ stepsE[k]? = some ((j : Nat) : Int) ∧ formsE[k + 1]? = some a ∧ rulesE[j]? = some r ∧ 1 ≤ f.2.length ∧ f.2.length ≤ 10 ∧ f.1.length ≤ 10 ∧ r.2.length ≤ 10 ∧ a.1.length ≤ 10 ∧ a.2.length ≤ 10 ∧ Txt.item f.2 0 = r.1 ∧
    (f.1 ++ r.2).length ≤ 20 ∧ (Txt.slice f.2 (some 1) none).length ≤ 10 ∧ f.1 ++ r.2 ++ Txt.slice f.2 (some 1) none = a.1 ++ a.2 := by
  have h := lawOk_all k (List.mem_range.mpr hk)
  unfold lawOk at h
  split at h
  · rename_i f j a e1 e2 e3
    split at h
    · rename_i r e4
      simp only [Bool.and_eq_true, decide_eq_true_eq] at h
      obtain ⟨⟨⟨⟨⟨⟨⟨⟨⟨⟨⟨h0, h1⟩, h2⟩, h3⟩, h4⟩, h5⟩, h6⟩, h7⟩, h8⟩, h9⟩, h10⟩, h11⟩ := h
      exact ⟨f, j.toNat, a, r, e1, by rw [e2]; congr 1; omega, e3, e4, h2, h3, h4, h5, h6, h7, h8, h9, h10, h11⟩
    · cases h
  · cases h

local macro_rules | `(tactic| walk_at "stp") => `(tactic| ((with_reducible refine slice_str ?_); (try dsimp only)))
theorem spec_law (M : Mod) (hM : Ok M) (xs : List Int) (ls aF aR : Addr) (hz : xs.length ≤ 63) (hF : M.mg (Str.ofString "_law_FORMS") = some (.ref aF)) (hR : M.mg (Str.ofString "_law_RULES") = some (.ref aR)) :
    Spec M 10 (Str.ofString "law") [.ref ls] (fun P => P ls (.arr (xs.map V.int)) ∧ FormsP P aF formsE ∧ FormsP P aR rulesE) (fun v _ => v = .bool true) := by
  refine mkSpec hM.p 15 [Str.ofString "script"] (by rfl) (by decide) (by decide) (by decide) (fun vals pm code doc h => by obtain ⟨a, rfl, _⟩ := one_val h; rfl) (by rfl) (by rfl) (by rfl) ?_ ?_ fun c L fa code I hpre Qf hQf => ?_
  · rintro A B h ⟨q1, q2, q3⟩; exact ⟨h _ _ q1, FormsP.mono A B h q2, FormsP.mono A B h q3⟩
  · rintro v A B h q; exact q
  obtain ⟨q1, qF, qR⟩ := hpre
  have ho := I.env
  dsimp only [vars0] at ho I ⊢
  walk_at "run"
  refine call_def I (by rfl) (M.fn hM.p 14 (by rfl)) ?_
  walk_at "run"
  refine ⟨_, _, _, spec_cell M hM xs 0 ls (by omega) (by omega), by decide, .inr q1, fun v σ₁ _ hR' => ?_⟩
  subst hR'
  walk_at "run"
  intro va vb ha hb
  refine op_mod ha hb (by decide) ?_
  have hc0 := Int.fmod_nonneg_of_pos (cellOf xs 0) (b := 11) (by decide)
  have hc1 := Int.fmod_lt_of_pos (cellOf xs 0) (b := 11) (by decide)
  obtain ⟨k, hk⟩ : ∃ k : Nat, (cellOf xs 0).fmod 11 = (k : Nat) := ⟨((cellOf xs 0).fmod 11).toNat, by omega⟩
  rw [hk] at hc1 ⊢
  have hk11 : k < 11 := by omega
  obtain ⟨f, j, a, r, e1, e2, e3, e4, z1, z2, z3, z4, z5, z6, w1, z7, z8, w2⟩ := law_at hk11
  have hj8 : j < 8 := (List.getElem?_eq_some_iff.mp e4).1
  obtain ⟨fs, rf, f1, f2, f3⟩ := qF.get e1
  obtain ⟨fs', rf', f1', f2', f3'⟩ := qF.get e3
  obtain ⟨rs, rr, r1, r2, r3⟩ := qR.get e4
  walk_at "run"
  refine call_def0 I (by rfl) (M.fn hM.p 13 (by rfl)) (spec_sum M hM) (by decide) trivial fun v σ₂ hext hR' => ?_
  obtain ⟨lp, rfl, op⟩ := hR'
  have op : σ₂ lp = some (.list (stepsE.map V.int)) := op
  walk_at "run"
  refine call_type_list hM I (by rfl) ?_
  walk_at "run"
  refine ⟨lp, _, rfl, .inl op, ?_⟩
  refine name_blt hM I (by rfl) (by decide) (val := .type "list") (by decide +kernel) (by decide) ?_
  intro va vb ha hb
  refine op_isnot_same ha hb ⟨_, rfl, fun h => (nomatch h), fun _ => ?_⟩
  walk_at "run"
  refine ⟨by simp, fun lq hlq => ?_⟩
  intro va vb ha hb
  refine op_ne_ints (ss := stepsE) I.room.units ha hb (.inl (upd_new hlq op)) (.inl upd_self) ⟨_, rfl, fun h => (nomatch h), fun _ => ?_⟩
  walk_at "run"
  refine call_all hM I (by rfl) ?_
  walk_at "stp"
  refine listcomp I.room.1 ho (cl := []) (fun _ => .list lp (stepsE.map V.int)) (fun _ i ys σ' => σ' lp = some (.list (stepsE.map V.int)) ∧ ys = (List.replicate i true).map V.bool)
    ?_ (fun _ i ys σ' h => .inl h.1) (fun v i ys σ' u C hI hu hoC => ?_) (by rfl) (by decide) (by rfl) (by decide) (by decide)
  · walk_at "run"
    refine ⟨⟨rfl, .inl (upd_new hlq op)⟩, ⟨upd_new hlq op, rfl⟩, by simp [Src.items, stepsE], fun ys σ₄ D hI hD => ?_⟩
    obtain ⟨o4, rfl⟩ := hI
    have o5 : upd σ₄ D (.list ((List.replicate 11 true).map V.bool)) lp = some (.list (stepsE.map V.int)) := upd_new hD o4
    have o6 : upd σ₄ D (.list ((List.replicate 11 true).map V.bool)) D = some (.list ((List.replicate 11 true).map V.bool)) := upd_self
    change Evs c NoE _ _ (upd σ₄ D (.list ((List.replicate 11 true).map V.bool))) _
    generalize upd σ₄ D (.list ((List.replicate 11 true).map V.bool)) = σ₅ at o5 o6 ⊢
    walk_at "run"
    refine ⟨D, List.replicate 11 true, rfl, .inl o6, ⟨_, rfl, fun h => (nomatch h), fun _ => ?_⟩⟩
    walk_at "stp"
    walk_at "stp"
    refine assign_pair_t ho I.room.1 (by rfl) (by rfl) ?_ (by rfl) (by rfl)
    walk_at "stp"
    refine name_global ho I.top (by rfl) hF ?_
    walk_at "run"
    intro va vb ha hb
    refine sub_tup ha hb (.inr f1) (by omega) (by omega) f2 ?_
    refine ⟨rf, _, _, rfl, .inr f3, ?_⟩
    walk_at "stp"
    refine assign_pair_t ho I.room.1 (by rfl) (by rfl) ?_ (by rfl) (by rfl)
    walk_at "stp"
    refine name_global ho I.top (by rfl) hR ?_
    walk_at "run"
    intro va vb ha hb
    refine sub_list ha hb (.inl o5) (by omega) (by omega) (v := .int ((j : Nat) : Int)) (by rw [Int.toNat_natCast, List.getElem?_map, e2]; rfl) ?_
    intro va vb ha hb
    refine sub_tup ha hb (.inr r1) (by omega) (by omega) r2 ?_
    refine ⟨rr, _, _, rfl, .inr r3, ?_⟩
    walk_at "run"
    intro va vb ha hb
    refine sub_str ha hb (by decide) (by omega) (by omega) ?_
    walk_at "run"
    intro va vb ha hb
    refine op_ne_str ha hb ⟨_, rfl, fun h => by rw [w1] at h; simp at h, fun _ => ?_⟩
    walk_at "stp"
    walk_at "stp"
    walk_at "stp"
    walk_at "stp"
    refine name_global ho I.top (by rfl) hF ?_
    walk_at "run"
    walk_at "op"
    have hk1 : ((k : Nat) : Int) + 1 = ((k + 1 : Nat) : Int) := by omega
    rw [hk1]
    intro va vb ha hb
    refine sub_tup ha hb (.inr f1') (by omega) (by omega) f2' ?_
    walk_at "run"
    intro va vb ha hb
    refine op_adds ha hb (by omega) ?_
    walk_at "run"
    refine ⟨_, _, rfl, rfl, by omega, ?_⟩
    intro va vb ha hb
    refine op_adds ha hb (by omega) ?_
    walk_at "run"
    intro va vb ha hb
    refine sub_tup ha hb (.inr f3') (by decide) (by decide) (v := .str a.1) rfl ?_
    walk_at "run"
    intro va vb ha hb
    refine sub_tup ha hb (.inr f3') (by decide) (by decide) (v := .str a.2) rfl ?_
    intro va vb ha hb
    refine op_adds ha hb (by omega) ?_
    intro va vb ha hb
    refine op_ne_str ha hb ⟨_, rfl, fun h => by rw [w2] at h; simp at h, fun _ => ?_⟩
    walk_at "run"
    exact ⟨_, rfl, rfl⟩
  · obtain ⟨o4, rfl⟩ := hI
    have IC : In M (c.at C) _ _ := ⟨hoC, I.p, I.w, I.top, I.room⟩
    obtain ⟨z, hz', rfl⟩ := map_get (show (stepsE.map V.int)[i]? = some u from hu)
    walk_at "stp"
    refine call_type_int hM IC (by rfl) ?_
    walk_at "run"
    refine ⟨z, rfl, ?_⟩
    refine name_blt hM IC (by rfl) (by decide) (val := .type "int") (by decide +kernel) (by decide) ?_
    intro va vb ha hb
    refine op_is_same ha hb ⟨o4, ?_⟩
    rw [List.replicate_succ', List.map_append]; rfl

end Mine

namespace Mine
open PySem PySem.W PyProof.Rows
open_top hd55 for PySem.Challenge.rw_k18_0055
theorem arr_of_ints {p : Program} {w : World} {h : Heap} {l : Addr} {vs : List Value} {ns : List Int} (hl : h.IsList l vs.toArray) (hi : IntsAre vs ns) : (O.arr (ns.map V.int)).At p w h l := by
  refine ⟨_, hl, ?_⟩
  show vs.map er = ns.map V.int
  clear hl
  induction hi with
  | nil => rfl
  | cons n t _ ih => simp only [List.map_cons, er, ih]
theorem str_read {R : WRecords} {cl : Str → Option Addr} {h : Heap} {v : Value} {x : Str} {as : List Addr} (r : ReadsW R cl h v (.str x) as) : er v = .str x := by cases r; rfl
theorem pair_read {R : WRecords} {cl : Str → Option Addr} {p : Program} {w : World} {h : Heap} {v : Value} {x y : Str} {as : List Addr} (r : ReadsW R cl h v (.tuple [.str x, .str y]) as) : ∃ a, v = .ref a ∧ (O.tup [V.str x, V.str y]).At p w h a := by
  cases r with
  | @tuple a o vs n _ _ h1 h2 h3 h4 =>
    refine ⟨a, rfl, vs, n, o, h1, h2, h3, ?_⟩
    obtain ⟨vs⟩ := vs
    cases h4 with
    | cons r1 h4 => cases h4 with
      | cons r2 h4 => cases h4 with
        | nil => simp [str_read r1, str_read r2]
theorem forms_all {R : WRecords} {cl : Str → Option Addr} {p : Program} {w : World} {h : Heap} : ∀ (L : List (Str × Str)) {vs : List Value} {as : List Addr}, ReadsAllW R cl h vs (L.map fun x => WData.tuple [.str x.1, .str x.2]) as →
    ∃ rs : List Addr, vs.map er = rs.map V.ref ∧ rs.length = L.length ∧ ∀ (i : Nat) r x, rs[i]? = some r → L[i]? = some x → (O.tup [V.str x.1, V.str x.2]).At p w h r
  | [], vs, as, r => by
    cases r
    exact ⟨[], rfl, rfl, fun i r x e => by simp at e⟩
  | y :: L, vs, as, r => by
    cases r with
    | cons r1 r2 =>
      obtain ⟨a, rfl, ha⟩ := pair_read (p := p) (w := w) r1
      obtain ⟨rs, h1, h2, h3⟩ := forms_all (p := p) (w := w) L r2
      refine ⟨a :: rs, by simp [er, h1], by simp [h2], fun i r x e1 e2 => ?_⟩
      cases i with
      | zero =>
        simp at e1 e2
        subst e1; subst e2; exact ha
      | succ i => exact h3 i r x (by simpa using e1) (by simpa using e2)
theorem forms_read {R : WRecords} {cl : Str → Option Addr} {p : Program} {w : World} {h : Heap} {L : List (Str × Str)} {v : Value} {as : List Addr} (r : ReadsW R cl h v (.tuple (L.map fun x => WData.tuple [.str x.1, .str x.2])) as) : ∃ a, v = .ref a ∧ FormsP (fun a o => o.At p w h a) a L := by
  cases r with
  | @tuple a o vs n _ _ h1 h2 h3 h4 =>
    obtain ⟨rs, k1, k2, k3⟩ := forms_all (p := p) (w := w) L h4
    exact ⟨a, rfl, rs, ⟨vs, n, o, h1, h2, h3, k1⟩, k2, k3⟩
theorem post_true {R : WRecords} {args ds : List WData} : (WTm.eq .res (.lit (.bool true))).holds R { args := args, res := some (.bool true), after := ds } = true := by
  unfold WTm.holds
  rw [PySem.W.w_eq (PySem.W.w_res rfl) PySem.W.w_lit]
  have : PySem.W.same (WData.bool true) (WData.bool true) = true := by first | rfl | decide +kernel | simp [PySem.W.same]
  rw [this]
theorem post_row {l : OpenLaw} {args : List WData} : l.row.toRowW.claim.post args (.bool true) args = true := by
  show (WShape.has [] (WData.bool true) WShape.bool && (WTm.eq .res (.lit (.bool true))).holds [] { args := args, res := some (.bool true), after := args }) = true
  rw [post_true]
  first | rfl | decide +kernel | simp [WShape.has]
end Mine
open PySem PySem.W PyProof.Rows
set_option maxHeartbeats 8000000 in
theorem PySem.Challenge.cw_k18_0055_holds : PySem.Challenge.rw_k18_0055.Holds := by
  refine Mine.hd55 ?_
  k_fill
  intro w s₀ s₁ mg mb G Y fa o pm cd doc dV kV ho hd hcd hD hmg hg args vals as hpre hlay hrd hwl hlo
  have KX := kIn_of Y
  have X := (Ground.X G).1
  have V := (Ground.X G).2
  refine Ground.open G ?_
  intro T B D TE TW
  wrow_args hpre hlay hrd hwl hlo
  all_goals (first | refine callC_kw (enter_call ?_) | refine enter_call ?_ | refine callC_kw (enter_callW ?_) | refine enter_callW ?_ | w_how)
  all_goals w_top on
  all_goals (try refine codeAny_mono ?_ (fun _ _ g => GoodW.toG g))
  rename IntsAre _ _ => hI
  rename Heap.IsList _ _ _ => hL
  have e1 : recsOf Mine.hd55.view_39 = recsOf PySem.Challenge.pw_k18_0055 := by kernel_rfl
  have e2 : specOf Mine.hd55.view_39 (Str.ofString "ParseError") = some ("Exception.__new__", [.type "Exception", .type "BaseException", .type "object"]) := by decide +kernel
  have hM : Mine.Ok ⟨PySem.Challenge.pw_k18_0055, Mine.hd55.view_39, w, looseW Mine.hd55.view_39 [], ExcName.means s₀.heap, mg, mb⟩ := ⟨e1, e2, fun x hx => T.free x ((by decide +kernel : ∀ x ∈ Mine.blts, x ∉ startupNames) x hx) ((by decide +kernel : ∀ x ∈ Mine.blts, x ∉ looseW Mine.hd55.view_39 []) x hx) ((by decide +kernel : ∀ x ∈ Mine.blts, x ∉ (recsOf Mine.hd55.view_39).map (·.name)) x hx) ((by decide +kernel : ∀ x ∈ Mine.blts, x ∉ (litsOf Mine.hd55.view_39).map (·.1)) x hx) ((by decide +kernel : ∀ x ∈ Mine.blts, x ∉ (clssOf Mine.hd55.view_39 (looseW Mine.hd55.view_39 [])).map (·.name)) x hx)⟩
  have t1 : (wlitsOf Mine.hd55.view_39)[0]? = some (Str.ofString "_law_RULES", WData.tuple (Mine.rulesE.map fun x => WData.tuple [.str x.1, .str x.2])) := by kernel_rfl
  have t2 : (wlitsOf Mine.hd55.view_39)[1]? = some (Str.ofString "_law_FORMS", WData.tuple (Mine.formsE.map fun x => WData.tuple [.str x.1, .str x.2])) := by kernel_rfl
  obtain ⟨vR, hvR, rR⟩ := TW.lits _ (List.mem_of_getElem? t1)
  obtain ⟨vF, hvF, rF⟩ := TW.lits _ (List.mem_of_getElem? t2)
  obtain ⟨aR, rfl, qR⟩ := Mine.forms_read (p := PySem.Challenge.pw_k18_0055) (w := w) rR
  obtain ⟨aF, rfl, qF⟩ := Mine.forms_read (p := PySem.Challenge.pw_k18_0055) (w := w) rF
  have hrun := (Mine.spec_law _ hM _ _ aF aR (by omega) hvF hvR).run callerA s₁ fa [.ref _] ⟨rfl, by decide, by decide⟩ T hmg rfl ⟨Mine.arr_of_ints hL hI, qF, qR⟩ hg
  refine codeAny_mono hrun (fun r s' hq => ?_)
  obtain ⟨v, σ', rfl, k1, k2, k3, _, k5⟩ := hq
  have := Mine.er_bool k5
  subst this
  exact ⟨.inl ⟨_, .bool true, [], rfl, fun _ => rfl, .bool true, Mine.post_row, fun _ => ⟨.nil, fun _ h => nomatch h⟩⟩, k1, k3, k2⟩
