import PyProof.Rows.All
import Wide.All
import OpenK.AllK
import Wide.FinOn
import KE.LcSums
import OpenK.KCall
import OpenK.KRaise
import KE.KRevSl
import PyProof.Rows.CatchBare
import PyProof.RulesDelMore
import PyProof.ListIndexNeg
import PyProof.DelItemList
import PySem.Challenge.RW_k18_0038
set_option Elab.async false
set_option maxRecDepth 100000
set_option maxHeartbeats 2000000
set_option compiler.extract_closed false
set_option genSizeOf false
set_option linter.unusedVariables false
set_option linter.unusedSimpArgs false

/-! The plain law: LL(1) machine, spans, fuel. No program in sight. -/
namespace Mine
section LL
variable {α : Type}

abbrev Gr (α : Type) := List (α × List α)
def IsHead (g : Gr α) (x : α) : Prop := ∃ r, (x, r) ∈ g

/-- body b spans the tokens from place i to place j, at a cost -/
inductive Sp (g : Gr α) (t : List α) : List α → Nat → Nat → Nat → Prop
  | nil {i : Nat} : i ≤ t.length → Sp g t [] i i 0
  | tok {x : α} {b : List α} {i j c : Nat} : ¬ IsHead g x → t[i]? = some x → Sp g t b (i + 1) j c → Sp g t (x :: b) i j (c + 1)
  | head {x : α} {r b : List α} {i k j c d : Nat} : (x, r) ∈ g → Sp g t r i k c → Sp g t b k j d → Sp g t (x :: b) i j (c + d + 1)

variable {g : Gr α} {t : List α}

theorem Sp.le {b : List α} {i j c : Nat} (h : Sp g t b i j c) : i ≤ j ∧ j ≤ t.length := by
  induction h with
  | nil h => exact ⟨Nat.le_refl _, h⟩
  | tok _ _ _ ih => exact ⟨by omega, ih.2⟩
  | head _ _ _ i1 i2 => exact ⟨by omega, i2.2⟩

theorem Sp.append {a b : List α} {i k j c d : Nat} (h : Sp g t a i k c) (h' : Sp g t b k j d) : Sp g t (a ++ b) i j (c + d) := by
  induction h with
  | nil _ => simpa using h'
  | @tok x b i j c1 h1 h2 _ ih =>
    have := Sp.tok h1 h2 (ih h')
    rw [List.cons_append]
    exact (by omega : c1 + d + 1 = c1 + 1 + d) ▸ this
  | @head x r b i k j c1 d1 h1 h2 _ _ ih =>
    have := Sp.head h1 h2 (ih h')
    rw [List.cons_append]
    exact (by omega : c1 + (d1 + d) + 1 = c1 + d1 + 1 + d) ▸ this

theorem Sp.split {a : List α} : ∀ {b : List α} {i j c : Nat}, Sp g t (a ++ b) i j c → ∃ k c1 c2, Sp g t a i k c1 ∧ Sp g t b k j c2 ∧ c = c1 + c2 := by
  induction a with
  | nil =>
    intro b i j c h
    have hh := h.le
    exact ⟨i, 0, c, .nil (by omega), h, by omega⟩
  | cons x a ih =>
    intro b i j c h
    rw [List.cons_append] at h
    cases h with
    | tok h1 h2 h3 =>
      obtain ⟨k, c1, c2, p, q, e⟩ := ih h3
      exact ⟨k, c1 + 1, c2, .tok h1 h2 p, q, by omega⟩
    | head h1 h2 h3 =>
      obtain ⟨k, c1, c2, p, q, e⟩ := ih h3
      exact ⟨k, _, c2, .head h1 h2 p, q, by omega⟩

/-- the driver: fuel, stack (its top first), place -/
def mach [DecidableEq α] (hd : α → Bool) (tb : α → α → Option (List α)) (u : List α) : Nat → List α → Nat → Bool
  | _, [], p => p == u.length
  | 0, _ :: _, _ => false
  | n + 1, x :: st, p =>
    match u[p]? with
    | none => false
    | some y =>
      if hd x then
        match tb x y with
        | none => false
        | some r => mach hd tb u n (r ++ st) p
      else if x = y then mach hd tb u n st (p + 1) else false

theorem mach_nil [DecidableEq α] (hd : α → Bool) (tb : α → α → Option (List α)) (u : List α) (n p : Nat) : mach hd tb u n [] p = (p == u.length) := by
  cases n <;> rfl

theorem get_snoc_lt {t : List α} {d : α} {p : Nat} (h : p < t.length) : (t ++ [d])[p]? = t[p]? := by
  rw [List.getElem?_append_left h]
theorem get_snoc_len {t : List α} {d : α} : (t ++ [d])[t.length]? = some d := by simp

theorem mach_sound [DecidableEq α] {hd : α → Bool} {tb : α → α → Option (List α)} {dol : α} (hnd : ¬ IsHead g dol) (hb : ∀ h r, (h, r) ∈ g → dol ∉ r)
    (htb : ∀ x y r, tb x y = some r → (x, r) ∈ g) (hhd : ∀ x, hd x = true ↔ IsHead g x) :
    ∀ n st p, dol ∉ st → p ≤ t.length → mach hd tb (t ++ [dol]) n (st ++ [dol]) p = true → ∃ c, Sp g t st p t.length c := by
  have hdd : hd dol = false := by
    cases e : hd dol with
    | false => rfl
    | true => exact absurd ((hhd dol).mp e) hnd
  intro n
  induction n with
  | zero => intro st p _ _ h; cases st <;> simp [mach] at h
  | succ n ih =>
    intro st p hst hp h
    cases st with
    | nil =>
      simp only [List.nil_append, mach] at h
      cases e : (t ++ [dol])[p]? with
      | none => rw [e] at h; simp at h
      | some y =>
        rw [e] at h
        simp only [hdd, Bool.false_eq_true, if_false] at h
        split at h
        · have h' := beq_iff_eq.mp h
          simp at h'
          subst h'
          exact ⟨0, .nil (Nat.le_refl _)⟩
        · cases h
    | cons x st =>
      simp only [List.cons_append, mach] at h
      cases e : (t ++ [dol])[p]? with
      | none => rw [e] at h; simp at h
      | some y =>
        rw [e] at h
        simp only at h
        split at h
        · rename_i hx
          cases e2 : tb x y with
          | none => rw [e2] at h; simp at h
          | some r =>
            rw [e2] at h
            simp only at h
            rw [← List.append_assoc] at h
            have hm := htb x y r e2
            obtain ⟨c, hc⟩ := ih (r ++ st) p (by
              rw [List.mem_append]; rintro (q | q)
              · exact hb _ _ hm q
              · exact hst (List.mem_cons_of_mem _ q)) hp h
            obtain ⟨k, c1, c2, p1, p2, _⟩ := hc.split
            exact ⟨_, .head hm p1 p2⟩
        · rename_i hx
          split at h
          · rename_i hxy
            subst hxy
            have hne : x ≠ dol := fun q => hst (q ▸ List.mem_cons_self)
            have hlt : p < t.length := by
              rcases Nat.lt_or_eq_of_le hp with q | q
              · exact q
              · subst q; rw [get_snoc_len] at e; exact absurd (Option.some.inj e).symm hne
            rw [get_snoc_lt hlt] at e
            obtain ⟨c, hc⟩ := ih st (p + 1) (fun q => hst (List.mem_cons_of_mem _ q)) hlt h
            exact ⟨_, .tok (fun q => hx ((hhd x).mpr q)) e hc⟩
          · cases h

/-- what a string of symbols can begin with, by nullables N and first sets F -/
def FSt (g : Gr α) (N : α → Prop) (F : α → α → Prop) : List α → α → Prop
  | [], _ => False
  | x :: r, y => (IsHead g x ∧ (F x y ∨ (N x ∧ FSt g N F r y))) ∨ (¬ IsHead g x ∧ y = x)
def Van (g : Gr α) (N : α → Prop) (r : List α) : Prop := ∀ x ∈ r, IsHead g x ∧ N x

structure Closed (g : Gr α) (N : α → Prop) (F W : α → α → Prop) (dol start : α) : Prop where
  n : ∀ h r, (h, r) ∈ g → Van g N r → N h
  f : ∀ h r y, (h, r) ∈ g → FSt g N F r y → F h y
  w0 : W start dol
  w1 : ∀ h a x b y, (h, a ++ x :: b) ∈ g → IsHead g x → FSt g N F b y → W x y
  w2 : ∀ h a x b y, (h, a ++ x :: b) ∈ g → IsHead g x → Van g N b → W h y → W x y

def Pr (g : Gr α) (N : α → Prop) (F W : α → α → Prop) (h : α) (r : List α) (y : α) : Prop := FSt g N F r y ∨ (Van g N r ∧ W h y)

variable {N : α → Prop} {F W : α → α → Prop} {dol start : α}

theorem FSt_append {a b : List α} {y : α} (h : FSt g N F (a ++ b) y) : FSt g N F a y ∨ (Van g N a ∧ FSt g N F b y) := by
  induction a with
  | nil => exact .inr ⟨fun _ h => (nomatch h), h⟩
  | cons x a ih =>
    rw [List.cons_append] at h
    rcases h with ⟨h1, h2 | ⟨h3, h4⟩⟩ | h
    · exact .inl (.inl ⟨h1, .inl h2⟩)
    · rcases ih h4 with q | ⟨q1, q2⟩
      · exact .inl (.inl ⟨h1, .inr ⟨h3, q⟩⟩)
      · refine .inr ⟨fun z hz => ?_, q2⟩
        rcases List.mem_cons.mp hz with rfl | hz
        · exact ⟨h1, h3⟩
        · exact q1 z hz
    · exact .inl (.inr h)

theorem Van_append {a b : List α} (h : Van g N (a ++ b)) : Van g N a ∧ Van g N b :=
  ⟨fun x hx => h x (List.mem_append_left _ hx), fun x hx => h x (List.mem_append_right _ hx)⟩

theorem Sp.begins (C : Closed g N F W dol start) {b : List α} {i j c : Nat} (h : Sp g t b i j c) :
    (i < j → ∃ y, t[i]? = some y ∧ FSt g N F b y) ∧ (i = j → Van g N b) := by
  induction h with
  | nil _ => exact ⟨fun h => absurd h (Nat.lt_irrefl _), fun _ _ h => (nomatch h)⟩
  | tok h1 h2 h3 _ => exact ⟨fun _ => ⟨_, h2, .inr ⟨h1, rfl⟩⟩, fun e => by have := h3.le; omega⟩
  | @head x r b i k j c d h1 h2 h3 i1 i2 =>
    have l1 := h2.le
    have l2 := h3.le
    have hx : IsHead g x := ⟨_, h1⟩
    refine ⟨fun hij => ?_, fun hij => ?_⟩
    · by_cases hik : i < k
      · obtain ⟨y, e, hf⟩ := i1.1 hik
        exact ⟨y, e, .inl ⟨hx, .inl (C.f _ _ _ h1 hf)⟩⟩
      · have hik : i = k := by omega
        subst hik
        obtain ⟨y, e, hf⟩ := i2.1 hij
        exact ⟨y, e, .inl ⟨hx, .inr ⟨C.n _ _ h1 (i1.2 rfl), hf⟩⟩⟩
    · have e1 : i = k := by omega
      have e2 : k = j := by omega
      intro z hz
      rcases List.mem_cons.mp hz with rfl | hz
      · exact ⟨hx, C.n _ _ h1 (i1.2 e1)⟩
      · exact i2.2 e2 z hz

def Coh (g : Gr α) (N : α → Prop) (F W : α → α → Prop) (dol : α) : List α → Prop
  | [] => True
  | x :: st => (IsHead g x → (∀ y, FSt g N F st y → W x y) ∧ (Van g N st → W x dol)) ∧ Coh g N F W dol st

theorem Coh.expand (C : Closed g N F W dol start) {x : α} {st r : List α} (h : Coh g N F W dol (x :: st)) (hr : (x, r) ∈ g) : Coh g N F W dol (r ++ st) := by
  have key : ∀ b a, r = a ++ b → Coh g N F W dol (b ++ st) := by
    intro b
    induction b with
    | nil => intro _ _; exact h.2
    | cons z b ih =>
      intro a e
      refine ⟨fun hz => ⟨fun y hy => ?_, fun hv => ?_⟩, ih (a ++ [z]) (by simp [e])⟩
      · rcases FSt_append hy with q | ⟨q1, q2⟩
        · exact C.w1 x a z b y (e ▸ hr) hz q
        · exact C.w2 x a z b y (e ▸ hr) hz q1 ((h.1 ⟨_, hr⟩).1 y q2)
      · have := Van_append hv
        exact C.w2 x a z b dol (e ▸ hr) hz this.1 ((h.1 ⟨_, hr⟩).2 this.2)
  exact key r [] rfl

theorem mach_complete [DecidableEq α] {hd : α → Bool} {tb : α → α → Option (List α)} (C : Closed g N F W dol start) (hnd : ¬ IsHead g dol)
    (htb : ∀ h r y, (h, r) ∈ g → Pr g N F W h r y → tb h y = some r) (hhd : ∀ x, hd x = true ↔ IsHead g x) :
    ∀ c st p n, Sp g t st p t.length c → Coh g N F W dol st → c + 1 ≤ n → mach hd tb (t ++ [dol]) n (st ++ [dol]) p = true := by
  have hdf : ∀ x, ¬ IsHead g x → hd x = false := fun x hx => by
    cases e : hd x with
    | false => rfl
    | true => exact absurd ((hhd x).mp e) hx
  intro c
  induction c using Nat.strongRecOn with
  | ind c ih =>
    intro st p n h hc hn
    obtain ⟨n, rfl⟩ : ∃ m, n = m + 1 := ⟨n - 1, by omega⟩
    cases h with
    | nil _ =>
      simp only [List.nil_append, mach, get_snoc_len, hdf dol hnd, Bool.false_eq_true, if_false, if_true]
      simp
    | @tok x b _ _ c h1 h2 h3 =>
      have hl := h3.le
      simp only [List.cons_append, mach]
      rw [get_snoc_lt (by omega), h2]
      simp only [hdf x h1, Bool.false_eq_true, if_false, if_true]
      exact ih c (by omega) b (p + 1) n h3 hc.2 (by omega)
    | @head x r b _ k _ c d h1 h2 h3 =>
      have l1 := h2.le
      have l2 := h3.le
      have hx : IsHead g x := ⟨_, h1⟩
      obtain ⟨y, hy, hpr⟩ : ∃ y, (t ++ [dol])[p]? = some y ∧ Pr g N F W x r y := by
        by_cases hpk : p < k
        · obtain ⟨y, e, hf⟩ := (h2.begins C).1 hpk
          exact ⟨y, (get_snoc_lt (by omega)).trans e, .inl hf⟩
        · have e1 : p = k := by omega
          have hv := (h2.begins C).2 e1
          by_cases hkl : k < t.length
          · obtain ⟨y, e, hf⟩ := (h3.begins C).1 hkl
            exact ⟨y, (get_snoc_lt (by omega)).trans (e1 ▸ e), .inr ⟨hv, (hc.1 hx).1 y hf⟩⟩
          · have e2 : k = t.length := by omega
            exact ⟨dol, by rw [e1, e2]; exact get_snoc_len, .inr ⟨hv, (hc.1 hx).2 ((h3.begins C).2 e2)⟩⟩
      simp only [List.cons_append, mach]
      rw [hy]
      simp only [(hhd x).mpr hx, if_true]
      rw [htb x r y h1 hpr]
      simp only
      rw [← List.append_assoc]
      exact ih (c + d) (by omega) (r ++ b) p n (h2.append h3) (hc.expand C h1) (by omega)

/-! a small derivation -/
theorem Sp.one {x : α} {i j c : Nat} (h : Sp g t [x] i j c) : (¬ IsHead g x ∧ t[i]? = some x ∧ j = i + 1 ∧ i < t.length ∧ c = 1) ∨ (∃ r c', (x, r) ∈ g ∧ Sp g t r i j c' ∧ c = c' + 1) := by
  cases h with
  | tok h1 h2 h3 => cases h3 with | nil h4 => exact .inl ⟨h1, h2, rfl, by omega, rfl⟩
  | head h1 h2 h3 => cases h3 with | nil h4 => exact .inr ⟨_, _, h1, h2, by omega⟩
theorem Sp.of_rule {x : α} {r : List α} {i j c : Nat} (h1 : (x, r) ∈ g) (h : Sp g t r i j c) : Sp g t [x] i j (c + 1) := .head h1 h (.nil h.le.2)
theorem Sp.two {x y : α} {i j c : Nat} (h : Sp g t [x, y] i j c) : ∃ k c1 c2, Sp g t [x] i k c1 ∧ Sp g t [y] k j c2 ∧ c = c1 + c2 := Sp.split (a := [x]) h
theorem Sp.join {x y : α} {i k j c d : Nat} (h : Sp g t [x] i k c) (h' : Sp g t [y] k j d) : Sp g t [x, y] i j (c + d) := h.append h'
theorem Sp.token {x : α} {i : Nat} (h : ¬ IsHead g x) (e : t[i]? = some x) (hl : i < t.length) : Sp g t [x] i (i + 1) 1 := .tok h e (.nil hl)
theorem Sp.empty_head {x : α} {i c : Nat} (h : Sp g t [x] i i c) : IsHead g x := by
  rcases h.one with ⟨_, _, e, _⟩ | ⟨r, _, h, _⟩
  · omega
  · exact ⟨r, h⟩

theorem len_two {r : List α} (h : r.length ≤ 2) : r = [] ∨ (∃ x, r = [x]) ∨ ∃ x y, r = [x, y] := by
  match r, h with
  | [], _ => exact .inl rfl
  | [x], _ => exact .inr (.inl ⟨x, rfl⟩)
  | [x, y], _ => exact .inr (.inr ⟨x, y, rfl⟩)
  | _ :: _ :: _ :: _, h => simp at h

structure Small (g : Gr α) (p q : α) : Prop where
  two : ∀ x, IsHead g x → x = p ∨ x = q
  len : ∀ h r, (h, r) ∈ g → r.length ≤ 2

variable {p q : α}

theorem Small.other (S : Small g p q) (x : α) (hx : IsHead g x) : ∃ y, ∀ z, IsHead g z → z = x ∨ z = y := by
  rcases S.two x hx with e | e
  · exact ⟨q, fun z hz => by rw [e]; exact S.two z hz⟩
  · exact ⟨p, fun z hz => by rw [e]; exact (S.two z hz).symm⟩

theorem eps_other (S : Small g p q) {x y : α} (hc : ∀ z, IsHead g z → z = x ∨ z = y) {i : Nat} : ∀ c, Sp g t [y] i i c → (y, []) ∈ g ∨ ∃ c', c' < c ∧ Sp g t [x] i i c' := by
  intro c
  induction c using Nat.strongRecOn with
  | ind c ih =>
    intro h
    rcases h.one with ⟨_, _, e, _⟩ | ⟨r, c', hr, hs, rfl⟩
    · omega
    · rcases len_two (S.len _ _ hr) with rfl | ⟨z, rfl⟩ | ⟨z, z', rfl⟩
      · exact .inl hr
      · rcases hc z hs.empty_head with rfl | rfl
        · exact .inr ⟨c', by omega, hs⟩
        · rcases ih c' (by omega) hs with q | ⟨c'', q1, q2⟩
          · exact .inl q
          · exact .inr ⟨c'', by omega, q2⟩
      · obtain ⟨k, c1, c2, h1, h2, rfl⟩ := hs.two
        have l1 := h1.le; have l2 := h2.le
        obtain rfl : i = k := by omega
        rcases hc z h1.empty_head with rfl | rfl
        · exact .inr ⟨c1, by omega, h1⟩
        · rcases ih c1 (by omega) h1 with q | ⟨c'', q1, q2⟩
          · exact .inl q
          · exact .inr ⟨c'', by omega, q2⟩

theorem eps_small (S : Small g p q) {i : Nat} : ∀ c x, Sp g t [x] i i c → ∃ c', c' ≤ 3 ∧ Sp g t [x] i i c' := by
  intro c
  induction c using Nat.strongRecOn with
  | ind c ih =>
    intro x h
    have hl := h.le
    obtain ⟨y, hc⟩ := S.other x h.empty_head
    rcases h.one with ⟨_, _, e, _⟩ | ⟨r, c', hr, hs, rfl⟩
    · omega
    · rcases len_two (S.len _ _ hr) with rfl | ⟨z, rfl⟩ | ⟨z, z', rfl⟩
      · exact ⟨1, by omega, Sp.of_rule hr (.nil hl.2)⟩
      · rcases hc z hs.empty_head with rfl | rfl
        · exact ih c' (by omega) z hs
        · rcases eps_other S hc c' hs with q | ⟨c'', q1, q2⟩
          · exact ⟨2, by omega, Sp.of_rule hr (Sp.of_rule q (.nil hl.2))⟩
          · exact ih c'' (by omega) x q2
      · obtain ⟨k, c1, c2, h1, h2, rfl⟩ := hs.two
        have l1 := h1.le; have l2 := h2.le
        obtain rfl : i = k := by omega
        rcases hc z h1.empty_head with rfl | rfl
        · exact ih c1 (by omega) z h1
        · rcases hc z' h2.empty_head with rfl | rfl
          · exact ih c2 (by omega) z' h2
          · rcases eps_other S hc c1 h1 with q | ⟨c'', q1, q2⟩
            · have e1 : Sp g t [z'] i i 1 := Sp.of_rule q (.nil hl.2)
              exact ⟨3, by omega, Sp.of_rule hr (e1.join e1)⟩
            · exact ih c'' (by omega) x q2

theorem two_heads (S : Small g p q) {i j β : Nat}
    (step : ∀ y c, IsHead g y → Sp g t [y] i j c → (∃ c', c' ≤ β ∧ Sp g t [y] i j c') ∨
      (∃ z c1, IsHead g z ∧ c1 < c ∧ Sp g t [z] i j c1 ∧ ∀ c2, Sp g t [z] i j c2 → ∃ c3, c3 ≤ c2 + 4 ∧ Sp g t [y] i j c3)) :
    ∀ c x, IsHead g x → Sp g t [x] i j c → ∃ c', c' ≤ β + 4 ∧ Sp g t [x] i j c' := by
  intro c
  induction c using Nat.strongRecOn with
  | ind c ih =>
    intro x hx h
    obtain ⟨y, hc⟩ := S.other x hx
    rcases step x c hx h with ⟨c', h1, h2⟩ | ⟨z, c1, hz, hlt, hs, up⟩
    · exact ⟨c', by omega, h2⟩
    · rcases hc z hz with rfl | rfl
      · exact ih c1 hlt z hz hs
      · have aux : ∀ c1, c1 < c → Sp g t [z] i j c1 → (∃ c', c' ≤ β ∧ Sp g t [z] i j c') ∨ ∃ c0, c0 < c ∧ Sp g t [x] i j c0 := by
          intro c1
          induction c1 using Nat.strongRecOn with
          | ind c1 ih1 =>
            intro hlt hs
            rcases step z c1 hz hs with q | ⟨z', c2, hz', hlt', hs', _⟩
            · exact .inl q
            · rcases hc z' hz' with rfl | rfl
              · exact .inr ⟨c2, by omega, hs'⟩
              · exact ih1 c2 hlt' (by omega) hs'
        rcases aux c1 hlt hs with ⟨c', q1, q2⟩ | ⟨c0, q1, q2⟩
        · obtain ⟨c3, r1, r2⟩ := up c' q2
          exact ⟨c3, by omega, r2⟩
        · exact ih c0 q1 x hx q2

theorem one_small (S : Small g p q) {i : Nat} : ∀ c x, Sp g t [x] i (i + 1) c → ∃ c', c' ≤ 9 ∧ Sp g t [x] i (i + 1) c' := by
  intro c x h
  by_cases hx : IsHead g x
  · refine two_heads S (β := 5) (fun y c hy h => ?_) c x hx h
    rcases h.one with ⟨hn, _⟩ | ⟨r, c', hr, hs, rfl⟩
    · exact absurd hy hn
    · rcases len_two (S.len _ _ hr) with rfl | ⟨z, rfl⟩ | ⟨z, z', rfl⟩
      · have := hs.le; cases hs
      · by_cases hz : IsHead g z
        · exact .inr ⟨z, c', hz, by omega, hs, fun c2 h2 => ⟨c2 + 1, by omega, Sp.of_rule hr h2⟩⟩
        · rcases hs.one with ⟨_, e, _, hl, _⟩ | ⟨r, _, hm, _⟩
          · exact .inl ⟨2, by omega, Sp.of_rule hr (Sp.token hz e hl)⟩
          · exact absurd ⟨r, hm⟩ hz
      · obtain ⟨k, c1, c2, h1, h2, rfl⟩ := hs.two
        have l1 := h1.le; have l2 := h2.le
        rcases (by omega : k = i ∨ k = i + 1) with rfl | rfl
        · obtain ⟨c3, b3, h3⟩ := eps_small S c1 z h1
          by_cases hz : IsHead g z'
          · refine .inr ⟨z', c2, hz, by omega, h2, fun c4 h4 => ⟨c3 + c4 + 1, by omega, Sp.of_rule hr (h3.join h4)⟩⟩
          · rcases h2.one with ⟨_, e, _, hl, _⟩ | ⟨r, _, hm, _⟩
            · exact .inl ⟨c3 + 1 + 1, by omega, Sp.of_rule hr (h3.join (Sp.token hz e hl))⟩
            · exact absurd ⟨r, hm⟩ hz
        · obtain ⟨c3, b3, h3⟩ := eps_small S c2 z' h2
          by_cases hz : IsHead g z
          · refine .inr ⟨z, c1, hz, by omega, h1, fun c4 h4 => ⟨c4 + c3 + 1, by omega, Sp.of_rule hr (h4.join h3)⟩⟩
          · rcases h1.one with ⟨_, e, _, hl, _⟩ | ⟨r, _, hm, _⟩
            · exact .inl ⟨1 + c3 + 1, by omega, Sp.of_rule hr ((Sp.token hz e hl).join h3)⟩
            · exact absurd ⟨r, hm⟩ hz
  · rcases h.one with ⟨_, e, _, hl, _⟩ | ⟨r, _, hm, _⟩
    · exact ⟨1, by omega, Sp.token hx e hl⟩
    · exact absurd ⟨r, hm⟩ hx

theorem two_small (S : Small g p q) {i : Nat} : ∀ c x, Sp g t [x] i (i + 2) c → ∃ c', c' ≤ 23 ∧ Sp g t [x] i (i + 2) c' := by
  intro c x h
  have hx : IsHead g x := by
    rcases h.one with ⟨_, _, e, _⟩ | ⟨r, _, hm, _⟩
    · omega
    · exact ⟨r, hm⟩
  refine two_heads S (β := 19) (fun y c hy h => ?_) c x hx h
  rcases h.one with ⟨hn, _⟩ | ⟨r, c', hr, hs, rfl⟩
  · exact absurd hy hn
  · have hd2 : ∀ z c, Sp g t [z] i (i + 2) c → IsHead g z := fun z c h => by
      rcases h.one with ⟨_, _, e, _⟩ | ⟨r, _, hm, _⟩
      · omega
      · exact ⟨r, hm⟩
    rcases len_two (S.len _ _ hr) with rfl | ⟨z, rfl⟩ | ⟨z, z', rfl⟩
    · cases hs
    · exact .inr ⟨z, c', hd2 z _ hs, by omega, hs, fun c2 h2 => ⟨c2 + 1, by omega, Sp.of_rule hr h2⟩⟩
    · obtain ⟨k, c1, c2, h1, h2, rfl⟩ := hs.two
      have l1 := h1.le; have l2 := h2.le
      rcases (by omega : k = i ∨ k = i + 1 ∨ k = i + 2) with rfl | rfl | rfl
      · obtain ⟨c3, b3, h3⟩ := eps_small S c1 z h1
        exact .inr ⟨z', c2, hd2 _ _ h2, by omega, h2, fun c4 h4 => ⟨c3 + c4 + 1, by omega, Sp.of_rule hr (h3.join h4)⟩⟩
      · obtain ⟨c3, b3, h3⟩ := one_small S c1 z h1
        obtain ⟨c4, b4, h4⟩ := one_small S c2 z' h2
        exact .inl ⟨c3 + c4 + 1, by omega, Sp.of_rule hr (h3.join h4)⟩
      · obtain ⟨c3, b3, h3⟩ := eps_small S c2 z' h2
        exact .inr ⟨z, c1, hd2 _ _ h1, by omega, h1, fun c4 h4 => ⟨c4 + c3 + 1, by omega, Sp.of_rule hr (h4.join h3)⟩⟩

theorem fuel_small (S : Small g p q) {x : α} {c : Nat} (hl : t.length ≤ 2) (h : Sp g t [x] 0 t.length c) : ∃ c', c' ≤ 23 ∧ Sp g t [x] 0 t.length c' := by
  rcases (by omega : t.length = 0 ∨ t.length = 1 ∨ t.length = 2) with e | e | e
  · rw [e] at h ⊢; obtain ⟨c', b, h⟩ := eps_small S c x h; exact ⟨c', by omega, h⟩
  · rw [e] at h ⊢; obtain ⟨c', b, h⟩ := one_small S (i := 0) c x h; exact ⟨c', by omega, h⟩
  · rw [e] at h ⊢; exact two_small S (i := 0) c x h

/-- the driver accepts just the words of the language -/
theorem mach_iff [DecidableEq α] {hd : α → Bool} {tb : α → α → Option (List α)} (C : Closed g N F W dol start) (S : Small g p q) (hnd : ¬ IsHead g dol) (hb : ∀ h r, (h, r) ∈ g → dol ∉ r) (hst : start ≠ dol)
    (htb1 : ∀ x y r, tb x y = some r → (x, r) ∈ g) (htb : ∀ h r y, (h, r) ∈ g → Pr g N F W h r y → tb h y = some r) (hhd : ∀ x, hd x = true ↔ IsHead g x) (hl : t.length ≤ 2) {n : Nat} (hn : 24 ≤ n) :
    mach hd tb (t ++ [dol]) n [start, dol] 0 = true ↔ ∃ c, Sp g t [start] 0 t.length c := by
  constructor
  · intro h
    exact mach_sound hnd hb htb1 hhd n [start] 0 (by simpa using Ne.symm hst) (Nat.zero_le _) h
  · rintro ⟨c, h⟩
    obtain ⟨c', b, h⟩ := fuel_small S hl h
    refine mach_complete C hnd htb hhd c' [start] 0 n h ⟨fun _ => ⟨fun y hy => hy.elim, fun _ => C.w0⟩, trivial⟩ (by omega)
end LL
end Mine

namespace Mine
open PySem PySem.Calls PyProof.Rows

/-- a value, its token forgotten -/
inductive V where
  | none | bool (b : Bool) | int (i : Int) | str (s : Str) | ref (a : Addr) | ty (n : String) | blt (n : String) | other
def er : Value → V
  | .none => .none
  | .bool b => .bool b
  | .int i _ => .int i
  | .str s _ => .str s
  | .ref a => .ref a
  | .type n => .ty n
  | .builtin n => .blt n
  | _ => .other
theorem er_none {v : Value} (h : er v = .none) : v = .none := by cases v <;> simp_all [er]
theorem er_bool {v : Value} {b : Bool} (h : er v = .bool b) : v = .bool b := by cases v <;> simp_all [er]
theorem er_int {v : Value} {i : Int} (h : er v = .int i) : ∃ t, v = .int i t := by cases v <;> simp_all [er]
theorem er_str {v : Value} {x : Str} (h : er v = .str x) : ∃ t, v = .str x t := by cases v <;> simp_all [er]
theorem er_ref {v : Value} {a : Addr} (h : er v = .ref a) : v = .ref a := by cases v <;> simp_all [er]
theorem er_blt {v : Value} {n : String} (h : er v = .blt n) : v = .builtin n := by cases v <;> simp_all [er]
theorem er_ty {v : Value} {n : String} (h : er v = .ty n) : v = .type n := by cases v <;> simp_all [er]

/-- an object, as far as it is known -/
inductive O where
  | list (xs : List V)
  | tuple (xs : List V)
  | dict (ks : List Str) (f : Str → Option V)
  | cell (v : Option V)
  | range (n : Int)
  | arr (xs : List V)

abbrev Vars := Str → Option V
abbrev Hp := Addr → Option O

def O.At (prog : Program) (w : World) (h : Heap) (a : Addr) : O → Prop
  | .list xs => ∃ items n, IsL h a items n ∧ items.toList.map er = xs
  | .tuple xs => ∃ items n, h.get? a = some { cls := .type "tuple", dict := none, data := .seq items n, slots := #[] } ∧ items.toList.map er = xs
  | .dict ks f => (a == sysModules) = false ∧ ∃ kvs, h.DictOf (strKind prog w) a kvs ∧ kvs.map (·.1) = ks ∧ ∀ k, (valueAt kvs k).map er = f k
  | .cell v => ∃ o v', h.get? a = some o ∧ o.data = .cell v' ∧ v'.map er = v
  | .range n => ∃ t u v, IsRange h a 0 n 1 t u v
  | .arr xs => ∃ items, h.IsList a items ∧ items.toList.map er = xs

theorem O.At.keeps {prog : Program} {w : World} {h h' : Heap} {a : Addr} : ∀ {o : O}, o.At prog w h a → (∀ x, h.get? a = some x → h'.get? a = some x) → o.At prog w h' a
  | .list _, ⟨items, n, e, r⟩, k => ⟨items, n, k _ e, r⟩
  | .tuple _, ⟨items, n, e, r⟩, k => ⟨items, n, k _ e, r⟩
  | .dict _ _, ⟨hs, kvs, ⟨o, es, ep, e, r'⟩, r⟩, k => ⟨hs, kvs, ⟨o, es, ep, k _ e, r'⟩, r⟩
  | .cell _, ⟨o, v', e, r⟩, k => ⟨o, v', k _ e, r⟩
  | .range _, ⟨t, u, v, e⟩, k => ⟨t, u, v, k _ e⟩
  | .arr _, ⟨items, ⟨o, e, r⟩, q⟩, k => ⟨items, ⟨o, k _ e, r⟩, q⟩
theorem O.At.some {prog : Program} {w : World} {h : Heap} {a : Addr} : ∀ {o : O}, o.At prog w h a → ∃ x, h.get? a = Option.some x
  | .list _, ⟨_, _, e, _⟩ => ⟨_, e⟩
  | .tuple _, ⟨_, _, e, _⟩ => ⟨_, e⟩
  | .dict _ _, ⟨_, _, ⟨o, _, _, e, _⟩, _⟩ => ⟨o, e⟩
  | .cell _, ⟨o, _, e, _⟩ => ⟨o, e⟩
  | .range _, ⟨_, _, _, e⟩ => ⟨_, e⟩
  | .arr _, ⟨_, ⟨o, e, _⟩, _⟩ => ⟨o, e⟩

structure Cx where
  prog : Program
  w : World
  A : Around
  g : Heap
  L : Addr
  os : OsState

abbrev Cx.M (c : Cx) : Model := model c.prog c.w

/-- the state in a frame: its locals, the objects it owns -/
structure St (c : Cx) (m : Vars) (σ : Hp) (s : Shared) : Prop where
  ns : ∃ m', s.heap.Ns c.L m' ∧ ∀ x v, m x = some v → ∃ val, m' x = some val ∧ er val = v
  keep : ∀ b o, c.g.get? b = some o → s.heap.get? b = some o
  own : ∀ a o, σ a = some o → o.At c.prog c.w s.heap a ∧ a ≠ c.L ∧ c.g.get? a = none
  above : c.g.objs.size ≤ c.L
  gens : s.gens = #[]
  os : s.os = c.os

/-- what a piece of code leaves alone -/
structure Pst (c : Cx) (σ : Hp) (s : Shared) (m' : Vars) (σ' : Hp) (s' : Shared) : Prop where
  st : St c m' σ' s'
  frame : ∀ b o, b ≠ c.L → σ b = none → s.heap.get? b = some o → s'.heap.get? b = some o
  dom : ∀ b o, σ' b = some o → σ b = none → s.heap.get? b = none

theorem Pst.refl {c : Cx} {m : Vars} {σ : Hp} {s : Shared} (S : St c m σ s) : Pst c σ s m σ s :=
  ⟨S, fun _ _ _ _ e => e, fun _ _ h1 h2 => (by rw [h1] at h2; cases h2)⟩

theorem Pst.trans {c : Cx} {m₁ m₂ : Vars} {σ σ₁ σ₂ : Hp} {s s₁ s₂ : Shared} (x : Pst c σ s m₁ σ₁ s₁) (y : Pst c σ₁ s₁ m₂ σ₂ s₂) : Pst c σ s m₂ σ₂ s₂ where
  st := y.st
  frame := fun b o hb hn e => by
    refine y.frame b o hb ?_ (x.frame b o hb hn e)
    cases h : σ₁ b with
    | none => rfl
    | some o' => have := x.dom b o' h hn; rw [e] at this; cases this
  dom := fun b o h hn => by
    cases h1 : σ₁ b with
    | some o' => exact x.dom b o' h1 hn
    | none =>
      have h2 := y.dom b o h h1
      cases h3 : s.heap.get? b with
      | none => rfl
      | some o' =>
        have := x.frame b o' (y.st.own b o h).2.1 hn h3
        rw [h2] at this; cases this

/-- code t, from variables m and objects σ, ends in Q or raises into E -/
def W {α : Type} (c : Cx) (E : Value → Shared → Prop) (t : Sem α) (m : Vars) (σ : Hp) (Q : α → Vars → Hp → Prop) : Prop :=
  ∀ s, St c m σ s → wpAny c.M c.A t (fun a s' => ∃ m' σ', Pst c σ s m' σ' s' ∧ Q a m' σ') E s

section
variable {α β : Type} {c : Cx} {E : Value → Shared → Prop} {m : Vars} {σ : Hp}

theorem W.mono {t : Sem α} {Q Q' : α → Vars → Hp → Prop} (h : W c E t m σ Q) (hq : ∀ a m' σ', Q a m' σ' → Q' a m' σ') : W c E t m σ Q' :=
  fun s S => wpAny_mono (h s S) (fun a _ ⟨m', σ', p, q⟩ => ⟨m', σ', p, hq a m' σ' q⟩) fun _ _ e => e

theorem W.anyE {t : Sem α} {Q : α → Vars → Hp → Prop} (h : W c (fun _ _ => False) t m σ Q) : W c E t m σ Q :=
  fun s S => wpAny_mono (h s S) (fun _ _ q => q) fun _ _ e => e.elim

/-- a rule of the library whose premise nests two judgements -/
theorem W.step {t : Sem α} {Q : α → Vars → Hp → Prop} {s : Shared} (h : W c E t m σ Q) (S : St c m σ s) {R : α → Shared → Prop}
    (k : ∀ a s' m' σ', Pst c σ s m' σ' s' → Q a m' σ' → R a s') : wpAny c.M c.A t R E s :=
  wpAny_mono (h s S) (fun a s' ⟨m', σ', p, q⟩ => k a s' m' σ' p q) fun _ _ e => e
end

/-- an object that may be read: owned, or of the base -/
def Sees (c : Cx) (σ : Hp) (a : Addr) (o : O) : Prop := σ a = some o ∨ o.At c.prog c.w c.g a
theorem Sees.at {c : Cx} {m : Vars} {σ : Hp} {a : Addr} {o : O} {s : Shared} (h : Sees c σ a o) (S : St c m σ s) : o.At c.prog c.w s.heap a :=
  h.elim (fun e => (S.own a o e).1) fun e => e.keeps fun x hx => S.keep a x hx

def upd {κ β : Type} [DecidableEq κ] (f : κ → Option β) (k : κ) (v : β) : κ → Option β := fun y => if y = k then some v else f y
theorem upd_self {κ β : Type} [DecidableEq κ] {f : κ → Option β} {k : κ} {v : β} : upd f k v k = some v := by simp [upd]
theorem upd_ne {κ β : Type} [DecidableEq κ] {f : κ → Option β} {k k' : κ} {v : β} {r : Option β} (h : k' ≠ k) (e : f k' = r) : upd f k v k' = r := by simp [upd, h, e]

section
variable {c : Cx} {m : Vars} {σ : Hp} {s : Shared}

theorem St.Fr (S : St c m σ s) : ∃ m', Fr c.g c.L s.heap m' ∧ ∀ x v, m x = some v → ∃ val, m' x = some val ∧ er val = v :=
  let ⟨m', h1, h2⟩ := S.ns; ⟨m', ⟨h1, S.keep, S.above⟩, h2⟩

theorem St.lt (S : St c m σ s) : c.L < s.heap.objs.size := let ⟨_, h, _⟩ := S.ns; h.lt

/-- nothing known is touched: all that stood stands -/
theorem St.keeps {h' : Heap} {tk : Nat} (S : St c m σ s) (k : ∀ b o, s.heap.get? b = some o → h'.get? b = some o) : Pst c σ s m σ { s with heap := h', toks := tk } where
  st := { ns := let ⟨m', h1, h2⟩ := S.ns; ⟨m', h1.keeps k, h2⟩
          keep := fun b o e => k b o (S.keep b o e)
          own := fun a o e => let ⟨h1, h2⟩ := S.own a o e; ⟨h1.keeps fun x hx => k a x hx, h2⟩
          above := S.above, gens := S.gens, os := S.os }
  frame := fun b o _ _ e => k b o e
  dom := fun _ _ h1 h2 => by rw [h1] at h2; cases h2

theorem St.toks (S : St c m σ s) (tk : Nat) : Pst c σ s m σ { s with toks := tk } := S.keeps (fun _ _ e => e)

/-- a new object -/
theorem St.alloc {h' : Heap} {tk : Nat} {a : Addr} {o : O} (S : St c m σ s) (k : ∀ b o, s.heap.get? b = some o → h'.get? b = some o)
    (hn : s.heap.get? a = none) (ho : o.At c.prog c.w h' a) : Pst c σ s m (upd σ a o) { s with heap := h', toks := tk } ∧ σ a = none := by
  have hL : a ≠ c.L := fun e => by
    obtain ⟨_, hh, _⟩ := S.ns
    obtain ⟨_, _, _, h1, _⟩ := hh
    rw [e, h1] at hn; cases hn
  have hg : c.g.get? a = none := by
    cases h : c.g.get? a with
    | none => rfl
    | some x => rw [S.keep a x h] at hn; cases hn
  have hσ : σ a = none := by
    cases h : σ a with
    | none => rfl
    | some x => obtain ⟨y, e⟩ := (S.own a x h).1.some; rw [e] at hn; cases hn
  have P := S.keeps (tk := tk) k
  refine ⟨⟨⟨P.st.ns, P.st.keep, fun b x e => ?_, S.above, S.gens, S.os⟩, P.frame, fun b x e h2 => ?_⟩, hσ⟩
  · unfold upd at e
    split at e
    · rename_i hb; cases e; exact hb ▸ ⟨ho, hL, hg⟩
    · exact P.st.own b x e
  · unfold upd at e
    split at e
    · rename_i hb; rw [hb]; exact hn
    · rw [e] at h2; cases h2

theorem St.push {tk : Nat} {x : Obj} {o : O} (S : St c m σ s) (ho : o.At c.prog c.w (s.heap.push x) s.heap.objs.size) :
    Pst c σ s m (upd σ s.heap.objs.size o) { s with heap := s.heap.push x, toks := tk } ∧ σ s.heap.objs.size = none :=
  S.alloc (fun _ _ e => Heap.get?_push_of_some _ e) (by
    cases h : s.heap.get? s.heap.objs.size with
    | none => rfl
    | some y => exact absurd (Heap.lt_size h) (Nat.lt_irrefl _)) ho

/-- an untracked new object -/
theorem St.pushed {tk : Nat} {x : Obj} (S : St c m σ s) : Pst c σ s m σ { s with heap := s.heap.push x, toks := tk } :=
  S.keeps (fun _ _ e => Heap.get?_push_of_some _ e)

/-- an owned object is changed -/
theorem St.change {h' : Heap} {tk : Nat} {a : Addr} {o o' : O} (S : St c m σ s) (hs : Heap.SameBut a s.heap h') (hσ : σ a = some o) (ho : o'.At c.prog c.w h' a) :
    Pst c σ s m (upd σ a o') { s with heap := h', toks := tk } := by
  obtain ⟨_, hL, hg⟩ := S.own a o hσ
  refine ⟨⟨?_, fun b x e => ?_, fun b x e => ?_, S.above, S.gens, S.os⟩, fun b x hb hn e => ?_, fun b x e h2 => ?_⟩
  · obtain ⟨m', h1, h2⟩ := S.ns
    exact ⟨m', h1.sameBut hs (Ne.symm hL), h2⟩
  · exact (hs.2 b fun q => by rw [q, hg] at e; cases e).trans (S.keep b x e)
  · unfold upd at e
    split at e
    · rename_i hb; cases e; exact hb ▸ ⟨ho, hL, hg⟩
    · rename_i hb
      obtain ⟨h1, h2⟩ := S.own b x e
      exact ⟨h1.keeps fun y hy => (hs.2 b hb).trans hy, h2⟩
  · exact (hs.2 b fun q => by rw [q, hσ] at hn; cases hn).trans e
  · unfold upd at e
    split at e
    · rename_i hb; rw [hb, hσ] at h2; cases h2
    · rw [e] at h2; cases h2

/-- a local is stored -/
theorem St.store {h' : Heap} {tk : Nat} {x : Str} {v : Value} {m₀ : Str → Option Value} (S : St c m σ s) (hm : ∀ x v, m x = some v → ∃ val, m₀ x = some val ∧ er val = v)
    (hn : h'.Ns c.L (fun y => if y = x then some v else m₀ y)) (hs : Heap.SameBut c.L s.heap h') : Pst c σ s (upd m x (er v)) σ { s with heap := h', toks := tk } := by
  refine ⟨⟨⟨_, hn, fun y u e => ?_⟩, fun b o e => ?_, fun a o e => ?_, S.above, S.gens, S.os⟩, fun b o hb _ e => (hs.2 b hb).trans e, fun _ _ h1 h2 => (by rw [h1] at h2; cases h2)⟩
  · unfold upd at e
    split at e
    · rename_i hy; cases e; exact ⟨v, by simp [hy], rfl⟩
    · rename_i hy
      obtain ⟨val, h1, h2⟩ := hm y u e
      exact ⟨val, by simp [hy, h1], h2⟩
  · exact (hs.2 b (Nat.ne_of_lt (Nat.lt_of_lt_of_le (Heap.lt_size e) S.above))).trans (S.keep b o e)
  · obtain ⟨h1, h2, h3⟩ := S.own a o e
    exact ⟨h1.keeps fun y hy => (hs.2 a h2).trans hy, h2, h3⟩
end
end Mine

namespace Mine
open PySem PySem.Calls PyProof.Rows

/-- an expression's value, its token forgotten -/
def Ev (c : Cx) (E : Value → Shared → Prop) (t : Sem Value) (m : Vars) (σ : Hp) (Q : V → Vars → Hp → Prop) : Prop := W c E t m σ fun v => Q (er v)

/-- an operation on two values, their tokens forgotten -/
def Op2 (c : Cx) (E : Value → Shared → Prop) (op : Value → Value → Sem Value) (a b : V) (m : Vars) (σ : Hp) (Q : V → Vars → Hp → Prop) : Prop := ∀ va vb, er va = a → er vb = b → Ev c E (op va vb) m σ Q

inductive Fl where
  | next | brk | cont | ret (v : V)
def erF : Flow → Fl
  | .next => .next
  | .brk => .brk
  | .cont => .cont
  | .ret v => .ret (er v)
/-- a statement's end -/
def X (c : Cx) (E : Value → Shared → Prop) (t : Sem Flow) (m : Vars) (σ : Hp) (Q : Fl → Vars → Hp → Prop) : Prop := W c E t m σ fun f => Q (erF f)

structure EnvOk (c : Cx) (env : Env) : Prop where
  loc : env.locals = c.L
  kind : env.scope.kind = .function
  glob : env.globals = mainGlobals
  blt : env.builtins = builtinsNs

section
variable {c : Cx} {E : Value → Shared → Prop} {m : Vars} {σ : Hp} {env : Env} {x : Str} {pos : Pos} {v : V} {Q : V → Vars → Hp → Prop} {QB : Bool → Vars → Hp → Prop} {QF : Fl → Vars → Hp → Prop}

/-- from a rule that hands back a value and a heap in which all stands -/
theorem done {s s' : Shared} {m' : Vars} {σ' : Hp} {val : Value} (p : Pst c σ s m' σ' s') (h : Q (er val) m' σ') : ∃ m' σ', Pst c σ s m' σ' s' ∧ Q (er val) m' σ' := ⟨m', σ', p, h⟩

theorem name_local (ho : EnvOk c env) (hk : env.kindOf x = some .local) (hv : m x = some v) (h : Q v m σ) (hd : (x == ("__debug__" : Str)) = false := by decide) : Ev c E (eval (.Name x pos) env) m σ Q := fun s S => by
  obtain ⟨m', h1, h2⟩ := S.ns
  obtain ⟨val, h3, h4⟩ := h2 x v hv
  exact wpAny_Name (wpAny_loadName_local ho.kind hk (ho.loc ▸ h1) h3 (done (.refl S) (h4 ▸ h))) hd

theorem isCell {h : Heap} {a : Addr} {v : V} (x : (O.cell (some v)).At c.prog c.w h a) : ∃ val, h.IsCell a (some val) ∧ er val = v := by
  obtain ⟨o, v', h1, h2, h3⟩ := x
  cases v' with
  | none => cases h3
  | some val => exact ⟨val, ⟨o, h1, h2⟩, by simpa using h3⟩

theorem name_cell (ho : EnvOk c env) (hk : env.kindOf x = some .cell) {a : Addr} (hc : env.cells.lookup x = some a) (hs : Sees c σ a (.cell (some v))) (h : Q v m σ) (hd : (x == ("__debug__" : Str)) = false := by decide) :
    Ev c E (eval (.Name x pos) env) m σ Q := fun s S => by
  obtain ⟨val, h1, h2⟩ := isCell (hs.at S)
  exact wpAny_Name (wpAny_loadName_cell ho.kind hk hc h1 (done (.refl S) (h2 ▸ h))) hd

variable {p : Program} {loose : List Str} {mean : ExcName → Option Value} {mg mb : Str → Option Value}

theorem name_builtin (ho : EnvOk c env) (T : Top p loose mean mg mb c.g) (hk : env.kindOf x = some .globalImplicit) {val : Value} (hv : bootBuiltins x = some val) (hm : mg x = none) (hn : x ≠ "__name__") (h : Q (er val) m σ)
    (hd : (x == ("__debug__" : Str)) = false := by decide) : Ev c E (eval (.Name x pos) env) m σ Q := fun s S =>
  Name_function_global ho.kind hk (loadGlobal_builtin (ho.glob ▸ T.g.keeps S.keep) hm (ho.blt ▸ T.b.keeps S.keep) ((T.builtins x hn).trans hv) (done (.refl S) h)) hd

theorem const_int {i : Int} {k : Nat} (h : Q (.int i) m σ) : Ev c E (eval (.Constant (.int i) k pos) env) m σ Q := fun _ S => wpAny_Constant_int (done (S.toks _) h)
theorem const_str {u : Str} {k : Nat} (h : Q (.str u) m σ) : Ev c E (eval (.Constant (.str u) k pos) env) m σ Q := fun _ S => Constant_str (done (S.toks _) h)
theorem const_bool {b : Bool} {k : Nat} (h : Q (.bool b) m σ) : Ev c E (eval (.Constant (.bool b) k pos) env) m σ Q := fun _ S => Constant_bool (done (.refl S) h)
theorem const_none {k : Nat} (h : Q .none m σ) : Ev c E (eval (.Constant .none k pos) env) m σ Q := fun _ S => Constant_none (done (.refl S) h)

/-- the arguments of a call, the items of a display -/
def Evs (c : Cx) (E : Value → Shared → Prop) (t : Sem (List Value)) (m : Vars) (σ : Hp) (Q : List V → Vars → Hp → Prop) : Prop := W c E t m σ fun vs => Q (vs.map er)
theorem evs_nil {QL : List V → Vars → Hp → Prop} (h : QL [] m σ) : Evs c E (spliced (backTo pos (starEach [] env))) m σ QL := fun _ S => args_nil ⟨m, σ, .refl S, h⟩
theorem evs_cons {e : Expr} {rest : List Expr} {QL : List V → Vars → Hp → Prop} (h : Ev c E (eval e env) m σ fun v m₁ σ₁ => Evs c E (spliced (backTo pos (starEach rest env))) m₁ σ₁ fun vs m₂ σ₂ => QL (v :: vs) m₂ σ₂)
    (he : starEach (e :: rest) env = (false, eval e env) :: starEach rest env := by rfl) : Evs c E (spliced (backTo pos (starEach (e :: rest) env))) m σ QL := fun s S =>
  args_cons (W.step h S fun _ _ _ _ p q => W.step q p.st fun _ _ m₂ σ₂ p₂ q₂ => ⟨m₂, σ₂, p.trans p₂, q₂⟩) he

inductive DispL (vs : List V) (σ : Hp) (K : V → Hp → Prop) : Prop
  | mk (hz : vs.length ≤ 1000) (q : ∀ a, σ a = none → K (.ref a) (upd σ a (.list vs)))
inductive DispT (vs : List V) (σ : Hp) (K : V → Hp → Prop) : Prop
  | mk (hz : vs.length ≤ 1000) (q : ∀ a, σ a = none → K (.ref a) (upd σ a (.tuple vs)))
theorem list_disp {elts : List Expr} (h : Evs c E (spliced (backTo pos (starEach elts env))) m σ fun vs m₁ σ₁ => DispL vs σ₁ fun v σ₂ => Q v m₁ σ₂) : Ev c E (eval (.List elts pos) env) m σ Q := fun s S =>
  List_ (W.step h S fun vs s₁ m₁ σ₁ p ⟨hl, q⟩ => by
    rw [List.length_map] at hl
    obtain ⟨p₂, hn⟩ := p.st.push (tk := s₁.toks) (x := { cls := .type "list", data := .seq vs.toArray }) (o := .list (vs.map er)) ⟨vs.toArray, 0, IsL.new _ _, by simp⟩
    exact wpAny_newObj_type (done (p.trans p₂) (q _ hn)) (by show vs.toArray.size ≤ sizeLine; rw [List.size_toArray, sizeLine_eq]; omega))
theorem tuple_disp {elts : List Expr} {k : Nat} (h : Evs c E (spliced (backTo pos (starEach elts env))) m σ fun vs m₁ σ₁ => DispT vs σ₁ fun v σ₂ => Q v m₁ σ₂) : Ev c E (eval (.Tuple elts k pos) env) m σ Q := fun s S =>
  Tuple_ (W.step h S fun vs s₁ m₁ σ₁ p ⟨hl, q⟩ => by
    rw [List.length_map] at hl
    obtain ⟨p₂, hn⟩ := p.st.push (tk := s₁.toks) (x := { cls := .type "tuple", data := .seq vs.toArray }) (o := .tuple (vs.map er)) ⟨vs.toArray, 0, Heap.get?_push_size _ rfl, by simp⟩
    exact wpAny_newObj_type (done (p.trans p₂) (q _ hn)) (by show vs.toArray.size ≤ sizeLine; rw [List.size_toArray, sizeLine_eq]; omega))
theorem dict_disp (hs : ∀ s : Shared, St c m σ s → (s.heap.objs.size == sysModules) = false) (h : ∀ a, σ a = none → Q (.ref a) m (upd σ a (.dict [] fun _ => none))) : Ev c E (eval (.Dict [] [] pos) env) m σ Q := fun s S => by
  obtain ⟨p₂, hn⟩ := S.push (tk := s.toks) (x := { cls := .type "dict", data := .dict #[] }) (o := .dict [] fun _ => none) ⟨hs s S, [], Heap.DictOf.new _, rfl, fun _ => rfl⟩
  exact wpAny_Dict_empty (done p₂ (h _ hn))

theorem compare {l r : Expr} {op : CmpOp} (h : Ev c E (eval l env) m σ fun a m₁ σ₁ => Ev c E (eval r env) m₁ σ₁ fun b m₂ σ₂ => Op2 c E (compareOp op) a b m₂ σ₂ Q)
    (hm : behindInMarks op r = false := by with_unfolding_all rfl) : Ev c E (eval (.Compare l [op] [r] pos) env) m σ Q := fun s S =>
  wpAny_Compare1 (W.step h S fun a s₁ _ _ p q => W.step q p.st fun b s₂ _ _ p₂ q₂ => W.step (q₂ a b rfl rfl) p₂.st fun _ _ _ _ p₃ q₃ => done ((p.trans p₂).trans p₃) q₃) hm

/-- a bool for a test -/
inductive ToB (QB : Bool → Vars → Hp → Prop) (v : V) (m : Vars) (σ : Hp) : Prop
  | mk (b : Bool) (e : v = .bool b) (q : QB b m σ)
theorem truthy_toB {s : Shared} {m' : Vars} {σ' : Hp} {s' : Shared} {val : Value} (p : Pst c σ s m' σ' s') (q : ToB QB (er val) m' σ') : wpAny c.M c.A (truthy val) (fun b s'' => ∃ m' σ', Pst c σ s m' σ' s'' ∧ QB b m' σ') E s' := by
  obtain ⟨b, e, q⟩ := q
  rw [er_bool e]
  exact wpAny_truthy_bool ⟨m', σ', p, q⟩

theorem true_compare {l r : Expr} {op : CmpOp} {whole : Sem Value} (h : Ev c E (eval l env) m σ fun a m₁ σ₁ => Ev c E (eval r env) m₁ σ₁ fun b m₂ σ₂ => Op2 c E (compareOp op) a b m₂ σ₂ (ToB QB))
    (hm : behindInMarks op r = false := by with_unfolding_all rfl) : W c E (isTrue (.Compare l [op] [r] pos) env whole) m σ QB := fun s S =>
  wpAny_isTrue_Compare1 (W.step h S fun a s₁ _ _ p q => W.step q p.st fun b s₂ _ _ p₂ q₂ => W.step (q₂ a b rfl rfl) p₂.st fun _ _ _ _ p₃ q₃ => truthy_toB ((p.trans p₂).trans p₃) q₃) hm
theorem true_plain {e : Expr} {whole : Sem Value} (h : Ev c E whole m σ (ToB QB)) (he : isTrue e env whole = (do let v ← whole; standAt e.pos; holding [v] (truthy v)) := by rfl) : W c E (isTrue e env whole) m σ QB := fun s S =>
  isTrue_plain (W.step h S fun _ _ _ _ p q => truthy_toB p q) he
theorem true_not {e : Expr} {whole : Sem Value} (h : W c E (isTrue e env (eval e env)) m σ fun b => QB (!b)) : W c E (isTrue (.UnaryOp .Not e pos) env whole) m σ QB := fun s S =>
  isTrue_not (W.step h S fun _ _ m₁ σ₁ p q => ⟨m₁, σ₁, p, q⟩)
theorem true_and_nil {whole : Sem Value} (h : QB true m σ) : W c E (isTrue (.BoolOp .And [] pos) env whole) m σ QB := fun s S => isTrue_and_nil ⟨m, σ, .refl S, h⟩
theorem true_or_nil {whole : Sem Value} (h : QB false m σ) : W c E (isTrue (.BoolOp .Or [] pos) env whole) m σ QB := fun s S => isTrue_or_nil ⟨m, σ, .refl S, h⟩
theorem true_and {e : Expr} {rest : List Expr} {whole : Sem Value} (h : W c E (isTrue e env (eval e env)) m σ fun b m₁ σ₁ => (b = true → W c E (isTrue (.BoolOp .And rest pos) env whole) m₁ σ₁ QB) ∧ (b = false → QB false m₁ σ₁)) :
    W c E (isTrue (.BoolOp .And (e :: rest) pos) env whole) m σ QB := fun s S =>
  isTrue_and (W.step h S fun b _ m₁ σ₁ p q => by
    cases b with
    | true => exact W.step (q.1 rfl) p.st fun _ _ m₂ σ₂ p₂ q₂ => ⟨m₂, σ₂, p.trans p₂, q₂⟩
    | false => exact ⟨m₁, σ₁, p, q.2 rfl⟩)
theorem true_or {e : Expr} {rest : List Expr} {whole : Sem Value} (h : W c E (isTrue e env (eval e env)) m σ fun b m₁ σ₁ => (b = false → W c E (isTrue (.BoolOp .Or rest pos) env whole) m₁ σ₁ QB) ∧ (b = true → QB true m₁ σ₁)) :
    W c E (isTrue (.BoolOp .Or (e :: rest) pos) env whole) m σ QB := fun s S =>
  isTrue_or (W.step h S fun b _ m₁ σ₁ p q => by
    cases b with
    | false => exact W.step (q.1 rfl) p.st fun _ _ m₂ σ₂ p₂ q₂ => ⟨m₂, σ₂, p.trans p₂, q₂⟩
    | true => exact ⟨m₁, σ₁, p, q.2 rfl⟩)

theorem bool_one {e : Expr} {op : BoolOp} (h : Ev c E (eval e env) m σ Q) : Ev c E (eval (.BoolOp op [e] pos) env) m σ Q := fun s S => BoolOp_one (h s S)
theorem bool_and {e₁ e₂ : Expr} {rest : List Expr} (h : Ev c E (eval e₁ env) m σ (ToB fun b m₁ σ₁ => (b = true → Ev c E (eval (.BoolOp .And (e₂ :: rest) pos) env) m₁ σ₁ Q) ∧ (b = false → Q (.bool false) m₁ σ₁))) :
    Ev c E (eval (.BoolOp .And (e₁ :: e₂ :: rest) pos) env) m σ Q := fun s S =>
  BoolOp_and (W.step h S fun val s₁ m₁ σ₁ p q => by
    obtain ⟨b, e, q1, q2⟩ := q
    rw [er_bool e]
    cases b with
    | true => exact wpAny_truthy_bool (W.step (q1 rfl) p.st fun _ _ _ _ p₂ q₂ => done (p.trans p₂) q₂)
    | false => exact wpAny_truthy_bool (done (val := .bool false) p (q2 rfl)))
theorem bool_or {e₁ e₂ : Expr} {rest : List Expr} (h : Ev c E (eval e₁ env) m σ (ToB fun b m₁ σ₁ => (b = false → Ev c E (eval (.BoolOp .Or (e₂ :: rest) pos) env) m₁ σ₁ Q) ∧ (b = true → Q (.bool true) m₁ σ₁))) :
    Ev c E (eval (.BoolOp .Or (e₁ :: e₂ :: rest) pos) env) m σ Q := fun s S =>
  BoolOp_or (W.step h S fun val s₁ m₁ σ₁ p q => by
    obtain ⟨b, e, q1, q2⟩ := q
    rw [er_bool e]
    cases b with
    | false => exact wpAny_truthy_bool (W.step (q1 rfl) p.st fun _ _ _ _ p₂ q₂ => done (p.trans p₂) q₂)
    | true => exact wpAny_truthy_bool (done (val := .bool true) p (q2 rfl)))

theorem binop {l r : Expr} {op : Operator} (h : Ev c E (eval l env) m σ fun a m₁ σ₁ => Ev c E (eval r env) m₁ σ₁ fun b m₂ σ₂ => Op2 c E (binaryOp op) a b m₂ σ₂ Q) :
    Ev c E (eval (.BinOp l op r pos) env) m σ Q := fun s S =>
  wpAny_BinOp (W.step h S fun a s₁ _ _ p q => W.step q p.st fun b s₂ _ _ p₂ q₂ => W.step (q₂ a b rfl rfl) p₂.st fun _ _ _ _ p₃ q₃ => done ((p.trans p₂).trans p₃) q₃)
theorem unop {e : Expr} {op : UnaryOp} (h : Ev c E (eval e env) m σ fun a m₁ σ₁ => ∀ va, er va = a → Ev c E (unaryOp op va) m₁ σ₁ Q) : Ev c E (eval (.UnaryOp op e pos) env) m σ Q := fun s S =>
  UnaryOp_ (W.step h S fun a s₁ _ _ p q => W.step (q a rfl) p.st fun _ _ _ _ p₃ q₃ => done (p.trans p₃) q₃)
theorem subscript {value slice : Expr} (h : Ev c E (eval value env) m σ fun a m₁ σ₁ => Ev c E (eval slice env) m₁ σ₁ fun b m₂ σ₂ => Op2 c E (subscriptTail value slice) a b m₂ σ₂ Q) :
    Ev c E (eval (.Subscript value slice pos) env) m σ Q := fun s S =>
  Subscript_ (W.step h S fun a s₁ _ _ p q => W.step q p.st fun b s₂ _ _ p₂ q₂ => W.step (q₂ a b rfl rfl) p₂.st fun _ _ _ _ p₃ q₃ => done ((p.trans p₂).trans p₃) q₃)

/-! statements -/
theorem execs_nil (h : QF .next m σ) : X c E (execs [] env) m σ QF := fun _ S => wpAny_execs_nil ⟨m, σ, .refl S, h⟩
theorem execs_cons {st : Stmt} {rest : List Stmt} (h : X c E (exec st env) m σ fun f m₁ σ₁ => match f with | .next => X c E (execs rest env) m₁ σ₁ QF | f => QF f m₁ σ₁) : X c E (execs (st :: rest) env) m σ QF := fun s S =>
  wpAny_execs_cons (W.step h S fun f _ m₁ σ₁ p q => by
    cases f with
    | next => exact W.step q p.st fun _ _ m₂ σ₂ p₂ q₂ => ⟨m₂, σ₂, p.trans p₂, q₂⟩
    | brk => exact ⟨m₁, σ₁, p, q⟩
    | cont => exact ⟨m₁, σ₁, p, q⟩
    | ret v => exact ⟨m₁, σ₁, p, q⟩)
theorem ret {e : Expr} (h : Ev c E (eval e env) m σ fun v => QF (.ret v)) : X c E (exec (.Return (some e) pos) env) m σ QF := fun s S =>
  wpAny_Return_some (W.step h S fun _ _ m₁ σ₁ p q => ⟨m₁, σ₁, p, q⟩)
theorem if_ {test : Expr} {body orelse : List Stmt} (h : W c E (isTrue test env (eval test env)) m σ fun b m₁ σ₁ => (b = true → X c E (execs body env) m₁ σ₁ QF) ∧ (b = false → X c E (execs orelse env) m₁ σ₁ QF)) :
    X c E (exec (.If test body orelse pos) env) m σ QF := fun s S =>
  wpAny_If (W.step h S fun b _ m₁ σ₁ p q => by
    cases b with
    | true => exact W.step (q.1 rfl) p.st fun _ _ m₂ σ₂ p₂ q₂ => ⟨m₂, σ₂, p.trans p₂, q₂⟩
    | false => exact W.step (q.2 rfl) p.st fun _ _ m₂ σ₂ p₂ q₂ => ⟨m₂, σ₂, p.trans p₂, q₂⟩)

theorem store_local {val : Value} {QU : Unit → Vars → Hp → Prop} (ho : EnvOk c env) (hk : env.kindOf x = some .local) (h : QU () (upd m x (er val)) σ) : W c E (storeName env x val) m σ QU := fun s S => by
  obtain ⟨m', h1, h2⟩ := S.ns
  exact wpAny_storeName_local hk (ho.loc ▸ h1) (fun h' hn hs => ⟨_, _, S.store h2 (ho.loc ▸ hn) (ho.loc ▸ hs), h⟩) (by rw [ho.kind]; rfl)
theorem store_cell {val : Value} {QU : Unit → Vars → Hp → Prop} {a : Addr} {v₀ : Option V} (ho : EnvOk c env) (hk : env.kindOf x = some .cell) (hc : env.cells.lookup x = some a) (hσ : σ a = some (.cell v₀))
    (h : QU () m (upd σ a (.cell (some (er val))))) : W c E (storeName env x val) m σ QU := fun s S => by
  obtain ⟨o, v', h1, h2, h3⟩ := (S.own a _ hσ).1
  exact wpAny_storeName_cell ho.kind hk hc ⟨o, h1, h2⟩ fun h' ⟨o', h1', h2'⟩ hs => ⟨_, _, S.change (tk := s.toks) (o' := .cell (some (er val))) hs hσ ⟨o', _, h1', h2', rfl⟩, h⟩

theorem assign_name {value : Expr} {p' : Pos} (h : Ev c E (eval value env) m σ fun v m₁ σ₁ => ∀ val, er val = v → W c E (storeName env x val) m₁ σ₁ fun _ => QF .next)
    (hs : swapsWith value (some (.Name x p')) pos.line env = pure false := by rfl) : X c E (exec (.Assign [.Name x p'] value pos) env) m σ QF := fun s S =>
  wpAny_Assign_Name (W.step h S fun a s₁ _ _ p q => W.step (q a rfl) p.st fun _ _ m₂ σ₂ p₂ q₂ => ⟨m₂, σ₂, p.trans p₂, q₂⟩) hs
theorem assign_local {value : Expr} {p' : Pos} (ho : EnvOk c env) (hk : env.kindOf x = some .local) (h : Ev c E (eval value env) m σ fun v m₁ σ₁ => QF .next (upd m₁ x v) σ₁)
    (hs : swapsWith value (some (.Name x p')) pos.line env = pure false := by rfl) : X c E (exec (.Assign [.Name x p'] value pos) env) m σ QF :=
  assign_name (W.mono h fun _ _ _ q val e => store_local ho hk (e ▸ q)) hs
theorem assign_cell {value : Expr} {p' : Pos} {a : Addr} (ho : EnvOk c env) (hk : env.kindOf x = some .cell) (hc : env.cells.lookup x = some a)
    (h : Ev c E (eval value env) m σ fun v m₁ σ₁ => ∃ v₀, σ₁ a = some (.cell v₀) ∧ QF .next m₁ (upd σ₁ a (.cell (some v))))
    (hs : swapsWith value (some (.Name x p')) pos.line env = pure false := by rfl) : X c E (exec (.Assign [.Name x p'] value pos) env) m σ QF :=
  assign_name (W.mono h fun _ _ _ ⟨_, h1, q⟩ val e => store_cell ho hk hc h1 (e ▸ q)) hs
theorem expr_ {e : Expr} (h : Ev c E (eval e env) m σ fun v m₁ σ₁ => v = .none ∧ QF .next m₁ σ₁) (hi : interactive env = false := by rfl) (hs : swapsWith e none pos.line env = pure false := by rfl) : X c E (exec (.Expr e pos) env) m σ QF := fun s S =>
  wpAny_Expr (W.step h S fun val s₁ m₁ σ₁ p q => by rw [er_none q.1]; exact ⟨m₁, σ₁, p, q.2⟩) hi hs
theorem assign_sub {o i value : Expr} {p' : Pos} (h : Ev c E (eval value env) m σ fun v m₁ σ₁ => Ev c E (eval o env) m₁ σ₁ fun ov m₂ σ₂ => Ev c E (eval i env) m₂ σ₂ fun iv m₃ σ₃ =>
      ∀ val oval ival, er val = v → er oval = ov → er ival = iv → W c E (setItem oval ival val) m₃ σ₃ fun _ => QF .next)
    (hs : swapsWith value (some (.Subscript o i p')) pos.line env = pure false := by rfl) : X c E (exec (.Assign [.Subscript o i p'] value pos) env) m σ QF := fun s S =>
  wpAny_Assign_Subscript (W.step h S fun a s₁ _ _ p q => W.step q p.st fun b s₂ _ _ p₂ q₂ => W.step q₂ p₂.st fun d s₃ _ _ p₃ q₃ => W.step (q₃ a b d rfl rfl rfl) p₃.st fun _ _ m₄ σ₄ p₄ q₄ => ⟨m₄, σ₄, ((p.trans p₂).trans p₃).trans p₄, q₄⟩) hs
end
end Mine

namespace Mine
open PySem PySem.Calls PyProof.Rows PySem.SeqAt

section
variable {c : Cx} {E : Value → Shared → Prop} {m : Vars} {σ : Hp} {env : Env} {x : Str} {pos : Pos} {v : V} {Q : V → Vars → Hp → Prop}

/-! ints, bools, strs -/
theorem op_add {i j : Int} (h : Q (.int (i + j)) m σ) : Op2 c E (binaryOp .Add) (.int i) (.int j) m σ Q := fun a b ha hb s S => by
  obtain ⟨t, rfl⟩ := er_int ha; obtain ⟨u, rfl⟩ := er_int hb
  exact PyProof.Rows.add_int (done (S.toks _) h)
theorem op_sub {i j : Int} (h : Q (.int (i - j)) m σ) : Op2 c E (binaryOp .Sub) (.int i) (.int j) m σ Q := fun a b ha hb s S => by
  obtain ⟨t, rfl⟩ := er_int ha; obtain ⟨u, rfl⟩ := er_int hb
  exact PyProof.Rows.sub_int (done (S.toks _) h)
theorem op_mod {i j : Int} (hj : j ≠ 0) (h : Q (.int (i.fmod j)) m σ) : Op2 c E (binaryOp .Mod) (.int i) (.int j) m σ Q := fun a b ha hb s S => by
  obtain ⟨t, rfl⟩ := er_int ha; obtain ⟨u, rfl⟩ := er_int hb
  exact PyProof.Rows.mod_int hj (done (S.toks _) h)
theorem op_neg {i : Int} {a : Value} (ha : er a = .int i) (h : Q (.int (-i)) m σ) : Ev c E (unaryOp .USub a) m σ Q := fun s S => by
  obtain ⟨t, rfl⟩ := er_int ha
  exact PyProof.Rows.neg_int (done (S.toks _) h)
theorem op_eq_int {i j : Int} (h : Q (.bool (i == j)) m σ) : Op2 c E (compareOp .Eq) (.int i) (.int j) m σ Q := fun a b ha hb s S => by
  obtain ⟨t, rfl⟩ := er_int ha; obtain ⟨u, rfl⟩ := er_int hb
  exact PyProof.Rows.eq_int (done (val := .bool (i == j)) (.refl S) h)
theorem op_ne_int {i j : Int} (h : Q (.bool (i != j)) m σ) : Op2 c E (compareOp .NotEq) (.int i) (.int j) m σ Q := fun a b ha hb s S => by
  obtain ⟨t, rfl⟩ := er_int ha; obtain ⟨u, rfl⟩ := er_int hb
  exact PyProof.Rows.ne_int (done (val := .bool (i != j)) (.refl S) h)
theorem op_lt_int {i j : Int} (h : Q (.bool (decide (i < j))) m σ) : Op2 c E (compareOp .Lt) (.int i) (.int j) m σ Q := fun a b ha hb s S => by
  obtain ⟨t, rfl⟩ := er_int ha; obtain ⟨u, rfl⟩ := er_int hb
  exact PyProof.Rows.lt_int (done (val := .bool (decide (i < j))) (.refl S) h)
theorem op_gt_int {i j : Int} (h : Q (.bool (decide (i > j))) m σ) : Op2 c E (compareOp .Gt) (.int i) (.int j) m σ Q := fun a b ha hb s S => by
  obtain ⟨t, rfl⟩ := er_int ha; obtain ⟨u, rfl⟩ := er_int hb
  exact PyProof.Rows.gt_int (done (val := .bool (decide (i > j))) (.refl S) h)
theorem op_eq_str {i j : Str} (h : Q (.bool (i == j)) m σ) : Op2 c E (compareOp .Eq) (.str i) (.str j) m σ Q := fun a b ha hb s S => by
  obtain ⟨t, rfl⟩ := er_str ha; obtain ⟨u, rfl⟩ := er_str hb
  exact PyProof.Rows.eq_str (done (val := .bool (i == j)) (.refl S) h)
theorem op_ne_str {i j : Str} (h : Q (.bool (i != j)) m σ) : Op2 c E (compareOp .NotEq) (.str i) (.str j) m σ Q := fun a b ha hb s S => by
  obtain ⟨t, rfl⟩ := er_str ha; obtain ⟨u, rfl⟩ := er_str hb
  exact PyProof.Rows.ne_str (done (val := .bool (i != j)) (.refl S) h)
theorem op_eq_bool {i j : Bool} (h : Q (.bool (i == j)) m σ) : Op2 c E (compareOp .Eq) (.bool i) (.bool j) m σ Q := fun a b ha hb s S => by
  rw [er_bool ha, er_bool hb]
  exact PyProof.Rows.eq_bool (done (val := .bool (i == j)) (.refl S) h)
theorem op_ne_bool {i j : Bool} (h : Q (.bool (i != j)) m σ) : Op2 c E (compareOp .NotEq) (.bool i) (.bool j) m σ Q := fun a b ha hb s S => by
  rw [er_bool ha, er_bool hb]
  exact PyProof.Rows.ne_bool (done (val := .bool (i != j)) (.refl S) h)

/-! in a list of strs, of ints -/
theorem strs_er {items : List Value} {ss : List Str} (h : items.map er = ss.map V.str) {y : Value} (hy : y ∈ items) : ∃ z t, y = .str z t ∧ z ∈ ss := by
  have : er y ∈ ss.map V.str := h ▸ List.mem_map_of_mem hy
  obtain ⟨z, hz, e⟩ := List.mem_map.mp this
  obtain ⟨t, e'⟩ := er_str e.symm
  exact ⟨z, t, e', hz⟩
theorem ints_er {items : List Value} {ss : List Int} (h : items.map er = ss.map V.int) {y : Value} (hy : y ∈ items) : ∃ z t, y = .int z t ∧ z ∈ ss := by
  have : er y ∈ ss.map V.int := h ▸ List.mem_map_of_mem hy
  obtain ⟨z, hz, e⟩ := List.mem_map.mp this
  obtain ⟨t, e'⟩ := er_int e.symm
  exact ⟨z, t, e', hz⟩
def eqS (x : Str) (v : Value) : Bool := match v with | .str z _ => z == x | _ => false
def eqI (x : Int) (v : Value) : Bool := match v with | .int z _ => z == x | _ => false
theorem any_eqS {items : List Value} {ss : List Str} (h : items.map er = ss.map V.str) (x : Str) : items.any (eqS x) = decide (x ∈ ss) := by
  rw [Bool.eq_iff_iff, List.any_eq_true, decide_eq_true_eq]
  constructor
  · rintro ⟨y, hy, e⟩
    obtain ⟨z, t, rfl, hz⟩ := strs_er h hy
    have : z = x := by simpa [eqS] using e
    exact this ▸ hz
  · intro hx
    have : V.str x ∈ items.map er := h ▸ List.mem_map_of_mem hx
    obtain ⟨y, hy, e⟩ := List.mem_map.mp this
    obtain ⟨t, rfl⟩ := er_str e
    exact ⟨_, hy, by simp [eqS]⟩
theorem any_eqI {items : List Value} {ss : List Int} (h : items.map er = ss.map V.int) (x : Int) : items.any (eqI x) = decide (x ∈ ss) := by
  rw [Bool.eq_iff_iff, List.any_eq_true, decide_eq_true_eq]
  constructor
  · rintro ⟨y, hy, e⟩
    obtain ⟨z, t, rfl, hz⟩ := ints_er h hy
    have : z = x := by simpa [eqI] using e
    exact this ▸ hz
  · intro hx
    have : V.int x ∈ items.map er := h ▸ List.mem_map_of_mem hx
    obtain ⟨y, hy, e⟩ := List.mem_map.mp this
    obtain ⟨t, rfl⟩ := er_int e
    exact ⟨_, hy, by simp [eqI]⟩
theorem op_in_strs {ss : List Str} {u : Str} {l : Addr} (hl : Sees c σ l (.list (ss.map V.str))) (h : Q (.bool (decide (u ∈ ss))) m σ) : Op2 c E (compareOp .In) (.str u) (.ref l) m σ Q := fun a b ha hb s S => by
  obtain ⟨t, rfl⟩ := er_str ha; obtain rfl := er_ref hb
  obtain ⟨items, n, h1, h2⟩ := hl.at S
  refine in_listAt (eqS u) h1.isList (fun y hy => ?_) (done (val := .bool _) (.refl S) (by rw [← Array.any_toList, any_eqS h2]; exact h))
  obtain ⟨z, t', rfl, _⟩ := strs_er h2 (Array.mem_toList_iff.mpr hy)
  exact EqAt.str_str z t' u t
theorem op_notin_strs {ss : List Str} {u : Str} {l : Addr} (hl : Sees c σ l (.list (ss.map V.str))) (h : Q (.bool (!decide (u ∈ ss))) m σ) : Op2 c E (compareOp .NotIn) (.str u) (.ref l) m σ Q := fun a b ha hb s S => by
  obtain ⟨t, rfl⟩ := er_str ha; obtain rfl := er_ref hb
  obtain ⟨items, n, h1, h2⟩ := hl.at S
  refine notIn_listAt (eqS u) h1.isList (fun y hy => ?_) (done (val := .bool _) (.refl S) (by rw [← Array.any_toList, any_eqS h2]; exact h))
  obtain ⟨z, t', rfl, _⟩ := strs_er h2 (Array.mem_toList_iff.mpr hy)
  exact EqAt.str_str z t' u t
theorem op_in_ints {ss : List Int} {u : Int} {l : Addr} (hl : Sees c σ l (.list (ss.map V.int))) (h : Q (.bool (decide (u ∈ ss))) m σ) : Op2 c E (compareOp .In) (.int u) (.ref l) m σ Q := fun a b ha hb s S => by
  obtain ⟨t, rfl⟩ := er_int ha; obtain rfl := er_ref hb
  obtain ⟨items, n, h1, h2⟩ := hl.at S
  refine in_listAt (eqI u) h1.isList (fun y hy => ?_) (done (val := .bool _) (.refl S) (by rw [← Array.any_toList, any_eqI h2]; exact h))
  obtain ⟨z, t', rfl, _⟩ := ints_er h2 (Array.mem_toList_iff.mpr hy)
  exact EqAt.int_int z t' u t

/-! two lists of strs -/
theorem eqS_lists {c : Cx} {s : Shared} {l k : Addr} {ss ts : List Str} (A : Around) (hu : A.units < cLine) (hl : (O.list (ss.map V.str)).At c.prog c.w s.heap l) (hk : (O.list (ts.map V.str)).At c.prog c.w s.heap k) :
    RcAt A s (.ref l) (.ref k) (decide (ss = ts)) ∧ RcNeAt A s (.ref l) (.ref k) (!decide (ss = ts)) := by
  obtain ⟨xs, n, h1, h2⟩ := hl
  obtain ⟨ys, n', h3, h4⟩ := hk
  have l1 : xs.size = ss.length := by simpa using congrArg List.length h2
  have l2 : ys.size = ts.length := by simpa using congrArg List.length h4
  by_cases hsz : xs.size = ys.size
  · have he : ∀ j (p : j < xs.size) (q : j < ys.size), EqAt A.in1 s xs[j] ys[j] (decide (ss[j]? = ts[j]?)) := by
      intro j p q
      have e1 : (xs.toList.map er)[j]? = (ss.map V.str)[j]? := by rw [h2]
      have e2 : (ys.toList.map er)[j]? = (ts.map V.str)[j]? := by rw [h4]
      have hp : j < ss.length := by omega
      have hq : j < ts.length := by omega
      simp [p, q, hp, hq] at e1 e2
      obtain ⟨t, e1⟩ := er_str e1
      obtain ⟨u, e2⟩ := er_str e2
      rw [e1, e2]
      have := EqAt.str_str (A := A.in1) (s := s) ss[j] t ts[j] u
      have e3 : (ss[j] == ts[j]) = decide (ss[j]? = ts[j]?) := by rw [Bool.eq_iff_iff]; simp [hp, hq]
      rwa [e3] at this
    have ea : (List.range xs.size).all (fun j => decide (ss[j]? = ts[j]?)) = decide (ss = ts) := by
      rw [Bool.eq_iff_iff, List.all_eq_true, decide_eq_true_eq]
      constructor
      · intro h
        refine List.ext_getElem? fun j => ?_
        by_cases hj : j < xs.size
        · simpa using h j (List.mem_range.mpr hj)
        · rw [List.getElem?_eq_none (by omega), List.getElem?_eq_none (by omega)]
      · rintro rfl j _; simp
    refine ⟨?_, ?_⟩
    · have := RcAt.lists h1.isList h3.isList hsz hu he; rwa [ea] at this
    · have := RcNeAt.lists h1.isList h3.isList hsz hu he; rwa [ea] at this
  · have hne : ss ≠ ts := fun e => hsz (by rw [l1, l2, e])
    simp only [hne, decide_false, Bool.not_false]
    exact ⟨RcAt.lists_lengths h1.isList h3.isList (by simpa using hsz) hu, RcNeAt.lists_lengths h1.isList h3.isList (by simpa using hsz) hu⟩
theorem op_ne_strs {ss ts : List Str} {l k : Addr} (hu : c.A.units < cLine) (hl : Sees c σ l (.list (ss.map V.str))) (hk : Sees c σ k (.list (ts.map V.str)))
    (h : Q (.bool (!decide (ss = ts))) m σ) : Op2 c E (compareOp .NotEq) (.ref l) (.ref k) m σ Q := fun a b ha hb s S => by
  obtain rfl := er_ref ha; obtain rfl := er_ref hb
  exact (eqS_lists c.A hu (hl.at S) (hk.at S)).2 _ _ _ _ (done (val := .bool _) (.refl S) h)

/-! dicts -/
theorem dict_map {h : Heap} {a : Addr} {ks : List Str} {f : Str → Option V} (x : (O.dict ks f).At c.prog c.w h a) : ∃ g, h.MapOf (PySem.strKind c.prog c.w) a g ∧ ∀ k, (g k).map er = f k :=
  let ⟨_, kvs, h1, _, h2⟩ := x; ⟨valueAt kvs, h1.mapOf, h2⟩
theorem op_in_dict {ks : List Str} {f : Str → Option V} {u : Str} {l : Addr} (hl : Sees c σ l (.dict ks f)) (h : Q (.bool (f u).isSome) m σ) : Op2 c E (compareOp .In) (.str u) (.ref l) m σ Q := fun a b ha hb s S => by
  obtain ⟨t, rfl⟩ := er_str ha; obtain rfl := er_ref hb
  have h1 := hl.at S
  obtain ⟨g, h2, h3⟩ := dict_map h1
  exact wpAny_in_of (PySem.strKind_is c.prog c.w u t) h1.1 h2 (done (val := .bool _) (S.toks _) (by rw [← h3 u, Option.isSome_map] at h; exact h))
theorem op_notin_dict {ks : List Str} {f : Str → Option V} {u : Str} {l : Addr} (hl : Sees c σ l (.dict ks f)) (h : Q (.bool (!(f u).isSome)) m σ) : Op2 c E (compareOp .NotIn) (.str u) (.ref l) m σ Q := fun a b ha hb s S => by
  obtain ⟨t, rfl⟩ := er_str ha; obtain rfl := er_ref hb
  have h1 := hl.at S
  obtain ⟨g, h2, h3⟩ := dict_map h1
  exact wpAny_notIn_of (PySem.strKind_is c.prog c.w u t) h1.1 h2 (done (val := .bool _) (S.toks _) (by rw [← h3 u, Option.isSome_map] at h; exact h))

/-! items -/
theorem sub_dict {value slice : Expr} {ks : List Str} {f : Str → Option V} {u : Str} {l : Addr} (hl : Sees c σ l (.dict ks f)) (hv : f u = some v) (h : Q v m σ)
    (hs : ∀ t, subscripted slice false (.ref l) (.str u t) = operate [.ref l, .str u t] (getItem (.ref l) (.str u t)) := by intro _; with_unfolding_all rfl) : Op2 c E (subscriptTail value slice) (.ref l) (.str u) m σ Q := fun a b ha hb s S => by
  obtain ⟨t, rfl⟩ := er_str hb; obtain rfl := er_ref ha
  have h1 := hl.at S
  obtain ⟨g, h2, h3⟩ := dict_map h1
  have h4 := h3 u
  rw [hv] at h4
  cases hg : g u with
  | none => rw [hg] at h4; cases h4
  | some val =>
    rw [hg] at h4
    have h4 : er val = v := Option.some.inj h4
    exact tail_any h2.typeIs slot_dict_getitem.lookup (wpAny_getItem_of (PySem.strKind_is c.prog c.w u t) h2 hg (done (S.toks _) (h4 ▸ h))) (hs t)
theorem item_at {items : List Value} {xs : List V} {i : Nat} (h : items.map er = xs) (hi : xs[i]? = some v) : ∃ val, items[i]? = some val ∧ er val = v := by
  rw [← h, List.getElem?_map] at hi
  cases hx : items[i]? with
  | none => rw [hx] at hi; cases hi
  | some val => rw [hx] at hi; exact ⟨val, rfl, Option.some.inj hi⟩
theorem sub_list {value slice : Expr} {xs : List V} {i : Int} {l : Addr} (hl : Sees c σ l (.list xs)) (h0 : 0 ≤ i) (h63 : i < 2 ^ 63) (hv : xs[i.toNat]? = some v) (h : Q v m σ)
    (hs : ∀ t, subscripted slice false (.ref l) (.int i t) = operate [.ref l, .int i t] (getItem (.ref l) (.int i t)) := by intro _; with_unfolding_all rfl) : Op2 c E (subscriptTail value slice) (.ref l) (.int i) m σ Q := fun a b ha hb s S => by
  obtain ⟨t, rfl⟩ := er_int hb; obtain rfl := er_ref ha
  obtain ⟨items, n, h1, h2⟩ := hl.at S
  obtain ⟨val, h3, h4⟩ := item_at h2 hv
  exact tail_any h1.isList.typeIs slot_list_getitem.lookup (wpAny_getItem_list h1.isList h0 h63 (by rw [← Array.getElem?_toList]; exact h3) (done (.refl S) (h4 ▸ h))) (hs t)
theorem sub_tuple {value slice : Expr} {xs : List V} {i : Int} {l : Addr} (hl : Sees c σ l (.tuple xs)) (h0 : 0 ≤ i) (h63 : i < 2 ^ 63) (hv : xs[i.toNat]? = some v) (h : Q v m σ)
    (hs : ∀ t, subscripted slice false (.ref l) (.int i t) = operate [.ref l, .int i t] (getItem (.ref l) (.int i t)) := by intro _; with_unfolding_all rfl) : Op2 c E (subscriptTail value slice) (.ref l) (.int i) m σ Q := fun a b ha hb s S => by
  obtain ⟨t, rfl⟩ := er_int hb; obtain rfl := er_ref ha
  obtain ⟨items, n, h1, h2⟩ := hl.at S
  obtain ⟨val, h3, h4⟩ := item_at h2 hv
  have hlt : i.toNat < items.toList.length := (List.getElem?_eq_some_iff.mp h3).1
  refine item_tupleT (l := items.toList) (j := i.toNat) ⟨_, h1, rfl, n, by simp⟩ (by omega) h63 ?_ h3 (done (.refl S) (h4 ▸ h)) (hs t)
  exact seqIndex_of h0 (by omega)
end
end Mine

namespace Mine
open PySem PySem.Calls PyProof.Rows PySem.SeqAt

theorem valueAt_stored (kvs : List (Str × Value)) (k x : Str) (v : Value) : valueAt (stored kvs k v) x = if x = k then some v else valueAt kvs x := by
  unfold stored valueAt
  split
  · rename_i h
    induction kvs with
    | nil => simp at h
    | cons p r ih =>
      by_cases hp : p.1 = k
      · by_cases hx : x = k
        · subst hx; simp [hp]
        · have hk : ¬ k = x := fun e => hx e.symm
          have hr : List.find? (fun kv => decide (kv.1 = x)) (List.map (fun kv => if kv.1 = k then (kv.1, v) else kv) r) = List.find? (fun kv => decide (kv.1 = x)) r := by
            clear ih h
            induction r with
            | nil => rfl
            | cons q r ih2 =>
              by_cases hq : q.1 = k
              · simp [hq, hk, ih2]
              · by_cases hqx : q.1 = x
                · subst hqx; simp [hq]
                · simp [hq, hqx, ih2]
          simp [hp, hx, hk, hr]
      · have h' : r.any (fun kv => decide (kv.1 = k)) = true := by simpa [hp] using h
        have := ih h'
        by_cases hpx : p.1 = x
        · subst hpx; simp [hp]
        · simpa [hp, hpx] using this
  · rename_i h
    by_cases hx : x = k
    · subst hx
      have : kvs.find? (fun kv => decide (kv.1 = x)) = none := by
        rw [List.find?_eq_none]; intro p hp e
        exact h (List.any_eq_true.mpr ⟨p, hp, e⟩)
      simp [this]
    · have hk : ¬ k = x := fun e => hx e.symm
      simp [hx, hk]
theorem keys_stored (kvs : List (Str × Value)) (k : Str) (v : Value) : (stored kvs k v).map (·.1) = if k ∈ kvs.map (·.1) then kvs.map (·.1) else kvs.map (·.1) ++ [k] := by
  unfold stored
  by_cases h : k ∈ kvs.map (·.1)
  · have : (kvs.any fun kv => decide (kv.1 = k)) = true := by
      obtain ⟨p, hp, e⟩ := List.mem_map.mp h
      exact List.any_eq_true.mpr ⟨p, hp, by simp [e]⟩
    rw [if_pos this, if_pos h, keys_map_store]
  · have : ¬ (kvs.any fun kv => decide (kv.1 = k)) = true := by
      rw [List.any_eq_true]; rintro ⟨p, hp, e⟩
      exact h (List.mem_map.mpr ⟨p, hp, of_decide_eq_true e⟩)
    rw [if_neg this, if_neg h]; simp
def addKey (ks : List Str) (k : Str) : List Str := if k ∈ ks then ks else ks ++ [k]

section
variable {c : Cx} {E : Value → Shared → Prop} {m : Vars} {σ : Hp} {env : Env} {x : Str} {pos : Pos} {v : V} {Q : V → Vars → Hp → Prop} {QU : Unit → Vars → Hp → Prop} {QF : Fl → Vars → Hp → Prop}

theorem set_dict {ks : List Str} {f : Str → Option V} {u : Str} {l : Addr} {a b d : Value} (ha : er a = .ref l) (hb : er b = .str u) (hd : er d = v) (hl : σ l = some (.dict ks f)) (hz : ks.length ≤ 1000)
    (h : QU () m (upd σ l (.dict (addKey ks u) (upd f u v)))) : W c E (setItem a b d) m σ QU := fun s S => by
  obtain ⟨t, rfl⟩ := er_str hb; obtain rfl := er_ref ha
  obtain ⟨h1, kvs, h2, h3, h4⟩ := (S.own l _ hl).1
  have hz' : kvs.length ≤ sizeLine := by rw [← h3, List.length_map] at hz; rw [sizeLine_eq]; omega
  refine wpAny_setItem_pairs (PySem.strKind_is c.prog c.w u t) h2 (fun h' k1 k2 => ⟨_, _, S.change (o' := .dict (addKey ks u) (upd f u v)) k2 hl ⟨h1, _, k1, ?_, fun k => ?_⟩, h⟩) hz'
  · rw [keys_stored, h3]; rfl
  · rw [valueAt_stored]
    unfold upd
    by_cases hk : k = u
    · simp [hk, hd]
    · simp [hk, h4]
theorem set_arr {xs : List V} {i : Int} {l : Addr} {a b d : Value} (ha : er a = .ref l) (hb : er b = .int i) (hd : er d = v) (hl : σ l = some (.arr xs)) (h0 : 0 ≤ i) (h63 : i < 2 ^ 63) (hn : i < xs.length)
    (h : QU () m (upd σ l (.arr (xs.set i.toNat v)))) : W c E (setItem a b d) m σ QU := fun s S => by
  obtain ⟨t, rfl⟩ := er_int hb; obtain rfl := er_ref ha
  obtain ⟨items, h1, h2⟩ := (S.own l _ hl).1
  have hl' : items.size = xs.length := by simpa using congrArg List.length h2
  refine wpAny_setItem_list h1 h0 h63 (by omega) fun h' k1 k2 => ⟨_, _, S.change (tk := s.toks) (o' := .arr (xs.set i.toNat v)) k2 hl ⟨_, k1, ?_⟩, h⟩
  rw [Array.toList_setIfInBounds, List.map_set, h2, hd]
theorem sub_arr {value slice : Expr} {xs : List V} {i : Int} {l : Addr} (hl : Sees c σ l (.arr xs)) (h0 : 0 ≤ i) (h63 : i < 2 ^ 63) (hv : xs[i.toNat]? = some v) (h : Q v m σ)
    (hs : ∀ t, subscripted slice false (.ref l) (.int i t) = operate [.ref l, .int i t] (getItem (.ref l) (.int i t)) := by intro _; with_unfolding_all rfl) : Op2 c E (subscriptTail value slice) (.ref l) (.int i) m σ Q := fun a b ha hb s S => by
  obtain ⟨t, rfl⟩ := er_int hb; obtain rfl := er_ref ha
  obtain ⟨items, h1, h2⟩ := hl.at S
  obtain ⟨val, h3, h4⟩ := item_at h2 hv
  exact tail_any h1.typeIs slot_list_getitem.lookup (wpAny_getItem_list h1 h0 h63 (by rw [← Array.getElem?_toList]; exact h3) (done (.refl S) (h4 ▸ h))) (hs t)

inductive AppO (c : Cx) (σ : Hp) (v : V) (K : Addr → Prop) : Prop
  | mk (l : Addr) (e : v = .ref l) (hs : ∃ ys, Sees c σ l (.list ys)) (k : K l)
inductive AppI (σ : Hp) (l : Addr) (v : V) (K : Hp → Prop) : Prop
  | mk (xs : List V) (h : σ l = some (.list xs)) (hz : xs.length ≤ 1000) (k : K (upd σ l (.list (xs ++ [v]))))
theorem append_ {e : Expr} {apos np : Pos} {pl : Sem Bool} (h : Ev c E (eval (.Name x np) env) m σ fun ov m₁ σ₁ => AppO c σ₁ ov fun l => Ev c E (eval e env) m₁ σ₁ fun v m₂ σ₂ => AppI σ₂ l v fun σ₃ => Q .none m₂ σ₃)
    (hm : eval (.Call (.Attribute (.Name x np) (Str.ofString "append") apos) [e] [] pos) env = (do
      let ov ← eval (.Name x np) env
      standAt apos.atName
      let (f, first) ← holding [ov] (getMethod ov (Str.ofString "append") pl)
      callWith pos f first (backTo pos (starEach [e] env)) []) := by rfl)
    (he : starEach [e] env = (false, eval e env) :: starEach [] env := by rfl) : Ev c E (eval (.Call (.Attribute (.Name x np) (Str.ofString "append") apos) [e] [] pos) env) m σ Q := fun s S => by
  refine MethodCall_ (pl := pl) (W.step h S fun ov s₁ m₁ σ₁ p q => ?_) hm
  obtain ⟨l, e1, ⟨ys, hs⟩, q⟩ := q
  obtain rfl := er_ref e1
  obtain ⟨items, n, h1, h2⟩ := hs.at p.st
  refine getMethod_list_append h1 rfl rfl ?_
  rw [he]
  refine P.append_list (W.step q p.st fun val s₂ m₂ σ₂ p₂ q₂ => ?_)
  obtain ⟨xs, k1, k2, k3⟩ := q₂
  obtain ⟨items, n, h1, h2⟩ := (p₂.st.own l _ k1).1
  have hsz : items.size ≤ sizeLine := by have := congrArg List.length h2; simp at this; rw [sizeLine_eq]; omega
  refine ⟨items, n, hsz, h1, done (val := .none) ((p.trans p₂).trans (p₂.st.change (tk := s₂.toks) (o' := .list (xs ++ [er val])) (Heap.SameBut.update ..) k1 ⟨_, _, h1.update _, ?_⟩)) k3⟩
  simp [h2]

theorem op_addl {xs ys : List V} {l k : Addr} (hl : Sees c σ l (.list xs)) (hk : Sees c σ k (.list ys)) (hz : xs.length + ys.length ≤ 1000)
    (h : ∀ r, σ r = none → Q (.ref r) m (upd σ r (.list (xs ++ ys)))) : Op2 c E (binaryOp .Add) (.ref l) (.ref k) m σ Q := fun a b ha hb s S => by
  obtain rfl := er_ref ha; obtain rfl := er_ref hb
  obtain ⟨i1, n1, h1, h2⟩ := hl.at S
  obtain ⟨i2, n2, h3, h4⟩ := hk.at S
  have e1 := congrArg List.length h2
  have e2 := congrArg List.length h4
  simp at e1 e2
  obtain ⟨p, hn⟩ := S.push (tk := s.toks) (x := { cls := .type "list", data := .seq (i1 ++ i2) }) (o := .list (xs ++ ys)) ⟨_, _, IsL.new _ _, by simp [h2, h4]⟩
  exact P.add_list h1 h3 (done p (h _ hn)) (by rw [sizeLine_eq]; omega)

/-! slices of a list: [a:], [:b], [:], [::-1] -/
theorem slice_from {value lo : Expr} {p : Pos} (h : Ev c E (eval value env) m σ fun ov m₁ σ₁ => Ev c E (eval lo env) m₁ σ₁ fun iv m₂ σ₂ => ∃ l xs a, ov = .ref l ∧ iv = .int (a : Nat) ∧ Sees c σ₂ l (.list xs) ∧ xs.length ≤ 1000 ∧
      ∀ r, σ₂ r = none → Q (.ref r) m₂ (upd σ₂ r (.list (xs.drop a)))) (ht : ∀ o r, letTemporaryGo value o r = pure () ∨ True := by intro _ _; exact .inr trivial) :
    Ev c E (eval (.Subscript value (.Slice (some lo) none none p) pos) env) m σ Q := fun s S => by
  refine Subscript_ (W.step h S fun ov s₁ m₁ σ₁ p q => wpAny_Slice (W.step q p.st fun iv s₂ m₂ σ₂ p₂ q₂ => ?_))
  obtain ⟨l, xs, a, e1, e2, hs, hz, q₂⟩ := q₂
  obtain rfl := er_ref e1
  obtain ⟨t, rfl⟩ := er_int e2
  rw [evalPart_none]
  refine wpAny_pure (wpAny_pure ?_)
  have p₃ := p₂.st.pushed (tk := s₂.toks) (x := { cls := .type "slice", data := .fields #[.int (a : Nat) t, .none, .none] })
  obtain ⟨items, n, h1, h2⟩ := hs.at p₃.st
  have e3 := congrArg List.length h2
  simp at e3
  obtain ⟨p₄, hn⟩ := p₃.st.push (tk := s₂.toks) (x := { cls := .type "list", data := .seq (slicePick items (some (a : Int)) none none) }) (o := .list (xs.drop a)) ⟨_, _, IsL.new _ _, by rw [slicePick_from']; simp [h2]⟩
  exact tail_any h1.isList.typeIs slot_list_getitem.lookup (wpAny_getItem_list_slice h1.isList (Heap.IsSliceOf.new ..) (.int _ _) .none .none (by simp) (done ((p.trans p₂).trans (p₃.trans p₄)) (q₂ _ hn)) (by rw [sizeLine_eq]; omega)) (by with_unfolding_all rfl)
theorem slice_upto {value hi : Expr} {p : Pos} (h : Ev c E (eval value env) m σ fun ov m₁ σ₁ => Ev c E (eval hi env) m₁ σ₁ fun iv m₂ σ₂ => ∃ l xs a, ov = .ref l ∧ iv = .int (a : Nat) ∧ Sees c σ₂ l (.list xs) ∧ xs.length ≤ 1000 ∧
      ∀ r, σ₂ r = none → Q (.ref r) m₂ (upd σ₂ r (.list (xs.take a)))) :
    Ev c E (eval (.Subscript value (.Slice none (some hi) none p) pos) env) m σ Q := fun s S => by
  refine Subscript_ (W.step h S fun ov s₁ m₁ σ₁ p q => wpAny_Slice ?_)
  rw [evalPart_none]
  refine wpAny_pure (W.step q p.st fun iv s₂ m₂ σ₂ p₂ q₂ => ?_)
  obtain ⟨l, xs, a, e1, e2, hs, hz, q₂⟩ := q₂
  obtain rfl := er_ref e1
  obtain ⟨t, rfl⟩ := er_int e2
  refine wpAny_pure ?_
  have p₃ := p₂.st.pushed (tk := s₂.toks) (x := { cls := .type "slice", data := .fields #[.none, .int (a : Nat) t, .none] })
  obtain ⟨items, n, h1, h2⟩ := hs.at p₃.st
  have e3 := congrArg List.length h2
  simp at e3
  obtain ⟨p₄, hn⟩ := p₃.st.push (tk := s₂.toks) (x := { cls := .type "list", data := .seq (slicePick items none (some (a : Int)) none) }) (o := .list (xs.take a)) ⟨_, _, IsL.new _ _, by rw [slicePick_upto']; simp [h2]⟩
  exact tail_any h1.isList.typeIs slot_list_getitem.lookup (wpAny_getItem_list_slice h1.isList (Heap.IsSliceOf.new ..) .none (.int _ _) .none (by simp) (done ((p.trans p₂).trans (p₃.trans p₄)) (q₂ _ hn)) (by rw [sizeLine_eq]; omega)) (by with_unfolding_all rfl)
theorem slice_all {value : Expr} {p : Pos} (h : Ev c E (eval value env) m σ fun ov m₂ σ₂ => ∃ l xs, ov = .ref l ∧ Sees c σ₂ l (.list xs) ∧ xs.length ≤ 1000 ∧
      ∀ r, σ₂ r = none → Q (.ref r) m₂ (upd σ₂ r (.list xs))) : Ev c E (eval (.Subscript value (.Slice none none none p) pos) env) m σ Q := fun s S => by
  refine Subscript_ (W.step h S fun ov s₂ m₂ σ₂ p₂ q₂ => wpAny_Slice ?_)
  obtain ⟨l, xs, e1, hs, hz, q₂⟩ := q₂
  obtain rfl := er_ref e1
  rw [evalPart_none]
  refine wpAny_pure (wpAny_pure (wpAny_pure ?_))
  have p₃ := p₂.st.pushed (tk := s₂.toks) (x := { cls := .type "slice", data := .fields #[.none, .none, .none] })
  obtain ⟨items, n, h1, h2⟩ := hs.at p₃.st
  have e3 := congrArg List.length h2
  simp at e3
  obtain ⟨p₄, hn⟩ := p₃.st.push (tk := s₂.toks) (x := { cls := .type "list", data := .seq (slicePick items none none none) }) (o := .list xs) ⟨_, _, IsL.new _ _, by rw [slicePick_all]; simp [h2]⟩
  exact tail_any h1.isList.typeIs slot_list_getitem.lookup (wpAny_getItem_list_slice h1.isList (Heap.IsSliceOf.new ..) .none .none .none (by simp) (done (p₂.trans (p₃.trans p₄)) (q₂ _ hn)) (by rw [sizeLine_eq]; omega)) (by with_unfolding_all rfl)
end
end Mine

namespace Mine
open PySem PySem.Calls PyProof.Rows PySem.SeqAt

abbrev NoE : Value → Shared → Prop := fun _ _ => False
def Room (n : Nat) (A : Around) : Prop := A.handled = none ∧ A.depth + n ≤ 900 ∧ A.units + 100 * n ≤ 9000
theorem Room.less {n k : Nat} {A : Around} (h : Room n A) (hk : k ≤ n) : Room k A := ⟨h.1, by have := h.2.1; omega, by have := h.2.2; omega⟩
theorem Room.deeper {n : Nat} {A : Around} (h : Room (n + 1) A) (env : Env) : Room n (A.deeper env) :=
  ⟨h.1, by have := h.2.1; show A.depth + 1 + n ≤ 900; omega, by have := h.2.2; show A.units + 3 + 100 * n ≤ 9000; omega⟩
theorem Room.units {n : Nat} {A : Around} (h : Room n A) : A.units < cLine := by have := h.2.2; show A.units < 9900; omega
theorem Room.depth {n : Nat} {A : Around} (h : Room n A) : A.depth < recursionLimit := by have := h.2.1; show A.depth < 1000; omega

/-- what a loop goes over -/
inductive Src where
  | list (a : Addr) (xs : List V)
  | range (n : Nat)
def Src.items : Src → List V
  | .list _ xs => xs
  | .range n => (List.range n).map fun i => V.int (i : Nat)
def Src.Ok (c : Cx) (σ : Hp) : Src → Prop
  | .list a xs => Sees c σ a (.list xs)
  | .range _ => True
def Src.At (p : Program) (w : World) (h : Heap) (I : Addr) (i : Nat) : Src → Prop
  | .list a xs => h.IsListIter I a i ∧ (O.list xs).At p w h a
  | .range n => IsRangeIter h I (i : Nat) ((n : Int) - (i : Nat)) 1
/-- the value at the loop's head stands for the source -/
def Src.Is (c : Cx) (σ : Hp) (v : V) : Src → Prop
  | .list a xs => v = .ref a ∧ Sees c σ a (.list xs)
  | .range n => ∃ a, v = .ref a ∧ Sees c σ a (.range n) ∧ n < 2 ^ 60

section
variable {c : Cx} {E : Value → Shared → Prop} {m : Vars} {σ : Hp} {env : Env} {x : Str} {pos : Pos} {v : V} {Q : V → Vars → Hp → Prop} {QU : Unit → Vars → Hp → Prop} {QF : Fl → Vars → Hp → Prop}

theorem pyIter_src {src : Src} {s : Shared} {val : Value} {R : Value → Shared → Prop} (S : St c m σ s) (hv : src.Is c σ (er val))
    (h : ∀ I h', s.heap.get? I = none → src.At c.prog c.w h' I 0 → (∀ b o, s.heap.get? b = some o → h'.get? b = some o) → R (.ref I) { s with heap := h' }) :
    wpAny c.M c.A (pyIter val) R E s := by
  have fresh : s.heap.get? s.heap.objs.size = none := by
    cases e : s.heap.get? s.heap.objs.size with
    | none => rfl
    | some o => exact absurd (Heap.lt_size e) (Nat.lt_irrefl _)
  cases src with
  | list a xs =>
    obtain ⟨e, hs⟩ := hv
    obtain rfl := er_ref e
    obtain ⟨items, n, h1, h2⟩ := hs.at S
    exact wpAny_pyIter_list h1.isList (h _ _ fresh ⟨⟨_, Heap.get?_push_size _ rfl, rfl, rfl⟩, ⟨items, n, h1.push _, h2⟩⟩ (fun _ _ e => Heap.get?_push_of_some _ e))
  | range n =>
    obtain ⟨a, e, hs, hn⟩ := hv
    obtain rfl := er_ref e
    obtain ⟨t, u, w, h1⟩ := hs.at S
    have hr : Builtin.Range.rangeSize 0 (n : Int) 1 = n := by rw [rangeSize_one]; split <;> omega
    refine wpAny_pyIter_range h1 (small_one (by omega) (by omega) (by omega) (by omega)) ?_
    rw [hr]
    refine h _ _ fresh ?_ (fun _ _ e => Heap.get?_push_of_some _ e)
    show IsRangeIter _ _ ((0 : Nat) : Int) ((n : Int) - (0 : Nat)) 1
    have : ((n : Int) - (0 : Nat)) = n := by omega
    rw [this]
    exact Heap.get?_push_size _ rfl

theorem pyNext_item {src : Src} {s : Shared} {I : Addr} {i : Nat} {u : V} {R : Option Value → Shared → Prop} (hat : src.At c.prog c.w s.heap I i) (hu : src.items[i]? = some u)
    (h : ∀ val h' tk, er val = u → Heap.SameBut I s.heap h' → (match src with | .list a _ => h'.IsListIter I a (i + 1) | .range n => IsRangeIter h' I ((i + 1 : Nat) : Int) ((n : Int) - (i + 1 : Nat)) 1) → R (some val) { s with heap := h', toks := tk }) :
    wpAny c.M c.A (pyNext (.ref I)) R E s := by
  cases src with
  | list a xs =>
    obtain ⟨h1, items, n, h2, h3⟩ := hat
    obtain ⟨val, h4, h5⟩ := item_at h3 hu
    exact wpAny_pyNext_list_item h1 h2.isList (by rw [← Array.getElem?_toList]; exact h4) fun h' k1 k2 => h val h' s.toks h5 k2 k1
  | range n =>
    have hi : i < n ∧ V.int (i : Nat) = u := by
      simp only [Src.items, List.getElem?_map] at hu
      cases e : (List.range n)[i]? with
      | none => rw [e] at hu; cases hu
      | some j =>
        rw [e] at hu
        have := List.getElem?_eq_some_iff.mp e
        obtain ⟨k1, k2⟩ := this
        simp at k1 k2
        subst k2
        exact ⟨k1, Option.some.inj hu⟩
    refine wpAny_pyNext_range_item (x := (i : Nat)) (left := (n : Int) - (i : Nat)) (step := 1) hat (by omega) fun h' k1 k2 => h _ h' _ hi.2 k2 ?_
    show IsRangeIter h' I ((i + 1 : Nat) : Int) ((n : Int) - (i + 1 : Nat)) 1
    have e1 : ((i : Nat) : Int) + 1 = ((i + 1 : Nat) : Int) := by omega
    have e2 : (n : Int) - (i : Nat) - 1 = (n : Int) - (i + 1 : Nat) := by omega
    rw [e1, e2] at k1
    exact k1
theorem pyNext_end {src : Src} {s : Shared} {I : Addr} {i : Nat} {R : Option Value → Shared → Prop} (hh : c.A.handled = none) (hat : src.At c.prog c.w s.heap I i) (hu : src.items[i]? = none)
    (h : ∀ h', Heap.ExtBut I s.heap h' → R none { s with heap := h' }) : wpAny c.M c.A (pyNext (.ref I)) R E s := by
  cases src with
  | list a xs =>
    obtain ⟨h1, items, n, h2, h3⟩ := hat
    refine wpAny_pyNext_list_end hh h1 h2.isList ?_ h
    have e := congrArg List.length h3
    simp only [Src.items, List.getElem?_eq_none_iff] at hu
    simp at e
    simp; omega
  | range n =>
    have hi : n ≤ i := by simpa [Src.items] using hu
    exact wpAny_pyNext_range_end (x := (i : Nat)) (left := (n : Int) - (i : Nat)) (step := 1) hh hat (by omega) h

/-- an untracked object (an iterator, a growing list) is changed: nothing known is touched -/
theorem Pst.other {s s' : Shared} {m' : Vars} {σ' : Hp} {I : Addr} {h' : Heap} {tk : Nat} (p : Pst c σ s m' σ' s') (hI : s.heap.get? I = none) (hL : I ≠ c.L) (hσ : σ' I = none) (hs : Heap.ExtBut I s'.heap h') (hg : c.g.get? I = none) :
    Pst c σ s m' σ' { s' with heap := h', toks := tk } := by
  refine ⟨⟨?_, fun b o e => ?_, fun a o e => ?_, p.st.above, p.st.gens, p.st.os⟩, fun b o hb hn e => ?_, p.dom⟩
  · obtain ⟨m₀, h1, h2⟩ := p.st.ns
    exact ⟨m₀, h1.extBut hs (Ne.symm hL), h2⟩
  · exact hs b o (fun q => by rw [q, hg] at e; cases e) (p.st.keep b o e)
  · obtain ⟨h1, h2⟩ := p.st.own a o e
    exact ⟨h1.keeps fun y hy => hs a y (fun q => by rw [q, hσ] at e; cases e) hy, h2⟩
  · exact hs b o (fun q => by rw [q, hI] at e; cases e) (p.frame b o hb hn e)

theorem St.hole (S : St c m σ s) {I : Addr} (h : s.heap.get? I = none) : I ≠ c.L ∧ c.g.get? I = none ∧ σ I = none := by
  refine ⟨fun e => ?_, ?_, ?_⟩
  · obtain ⟨_, ⟨_, _, _, h1, _⟩, _⟩ := S.ns
    rw [e, h1] at h; cases h
  · cases e : c.g.get? I with
    | none => rfl
    | some o => rw [S.keep I o e] at h; cases h
  · cases e : σ I with
    | none => rfl
    | some o => obtain ⟨y, q⟩ := (S.own I o e).1.some; rw [q] at h; cases h

/-- a turn's end, for a for or a while -/
def Turn (Next : Vars → Hp → Prop) (QF : Fl → Vars → Hp → Prop) : Fl → Vars → Hp → Prop := fun f m σ => match f with
  | .next => Next m σ
  | .cont => Next m σ
  | .brk => QF .next m σ
  | .ret v => QF (.ret v) m σ

theorem comp_at {c : Cx} {sr : Src} {h : Heap} {I : Addr} {i : Nat} (hat : match sr with | .list a _ => h.IsListIter I a (i + 1) | .range n => IsRangeIter h I ((i + 1 : Nat) : Int) ((n : Int) - (i + 1 : Nat)) 1) :
    ∃ oI, h.get? I = some oI ∧ ∀ m σ s₅, St c m σ s₅ → sr.Ok c σ → s₅.heap.get? I = some oI → sr.At c.prog c.w s₅.heap I (i + 1) := by
  cases sr with
  | list a xs =>
    obtain ⟨o, h1, h2⟩ := hat
    exact ⟨o, h1, fun m σ s₅ S hok hI => ⟨⟨o, hI, h2⟩, hok.at S⟩⟩
  | range n => exact ⟨_, hat, fun m σ s₅ S hok hI => hI⟩
/-- what stands between a for's turns -/
inductive ForS (c : Cx) (σ₁ : Hp) (s₁ : Shared) (src : Src) (I : Addr) (Inv : Nat → Vars → Hp → Prop) (k : Nat) (s' : Shared) : Prop
  | mk (i : Nat) (m' : Vars) (σ' : Hp) (P : Pst c σ₁ s₁ m' σ' s') (hInv : Inv i m' σ') (hat : src.At c.prog c.w s'.heap I i) (hσI : σ' I = none) (hi : i ≤ src.items.length) (hk : k = src.items.length + 1 - i)
theorem forx {target iter : Expr} {body : List Stmt} (hh : c.A.handled = none)
    (h : Ev c E (eval iter env) m σ fun v m₁ σ₁ => ∃ (src : Src) (Inv : Nat → Vars → Hp → Prop), src.Is c σ₁ v ∧ Inv 0 m₁ σ₁ ∧ (∀ i m σ, Inv i m σ → src.Ok c σ) ∧
      (∀ i m σ u, Inv i m σ → src.items[i]? = some u → ∀ val, er val = u → W c NoE (assign target env val) m σ fun _ m₂ σ₂ => X c NoE (execs body env) m₂ σ₂ (Turn (Inv (i + 1)) QF)) ∧ (∀ m σ, Inv src.items.length m σ → QF .next m σ))
    (hs : ∀ x, foldedSetIterable iter env x = pure x := by intro _; rfl) (ht : ∀ it v, letOwnedTupleGo target it v = pure () := by intro _ _; rfl) :
    X c E (exec (.For target iter body [] pos) env) m σ QF := fun s S => by
  refine wpAny_For (W.step h S fun val s₁ m₁ σ₁ p ⟨src, Inv, qi, q0, ok, turn, fin⟩ => pyIter_src p.st qi fun I h' hI hat hk => ?_) hs
  have hole := p.st.hole hI
  have p₁ : Pst c σ s m₁ σ₁ { s₁ with heap := h' } := p.trans (p.st.keeps (tk := s₁.toks) hk)
  refine codeAny_forLoop (R := _) (ForS c σ₁ s₁ src I Inv)
    ?_ (src.items.length + 1) ⟨0, m₁, σ₁, p.st.keeps (tk := s₁.toks) hk, q0, hat, hole.2.2, Nat.zero_le _, rfl⟩ (ht (.ref I))
  rintro k s' ⟨i, m', σ', P, hInv, hat', hσI, hi, rfl⟩
  cases hu : src.items[i]? with
  | none =>
    have hlen : i = src.items.length := Nat.le_antisymm hi (by simpa using hu)
    refine pyNext_end hh hat' hu fun h'' hx => wpAny_execs_nil ?_
    exact ⟨m', σ', p.trans (P.other (tk := s'.toks) hI hole.1 hσI hx hole.2.1), fin _ _ (hlen ▸ hInv)⟩
  | some u =>
    have hlt : i < src.items.length := (List.getElem?_eq_some_iff.mp hu).1
    refine pyNext_item hat' hu fun uv h'' tk he hsb hat'' => ?_
    have P₁ := P.other (tk := tk) hI hole.1 hσI hsb.extBut hole.2.1
    refine wpAny_mono (turn i m' σ' u hInv hu uv he _ P₁.st) (fun _ s₃ ⟨m₂, σ₂, p₂, q₂⟩ => ?_) fun _ _ e => e.elim
    refine wpAny_mono (q₂ _ p₂.st) (fun f s₄ ⟨m₃, σ₃, p₃, q₃⟩ => ?_) fun _ _ e => e.elim
    have p₂₃ := p₂.trans p₃
    have P₂ := P₁.trans p₂₃
    obtain ⟨oI, hIo, ATS⟩ := comp_at hat''
    have goes : Inv (i + 1) m₃ σ₃ → ∃ k, k < src.items.length + 1 - i ∧ ForS c σ₁ s₁ src I Inv k s₄ := fun hI' => by
      refine ⟨src.items.length + 1 - (i + 1), by omega, i + 1, m₃, σ₃, P₂, hI', ATS _ _ _ P₂.st (ok _ _ _ hI') (p₂₃.frame I oI hole.1 hσI hIo), ?_, hlt, rfl⟩
      cases e : σ₃ I with
      | none => rfl
      | some o => have := p₂₃.dom I o e hσI; rw [show h''.get? I = some oI from hIo] at this; cases this
    cases f with
    | next => exact goes q₃
    | cont => exact goes q₃
    | brk => exact ⟨m₃, σ₃, p.trans P₂, q₃⟩
    | ret rv => exact ⟨m₃, σ₃, p.trans P₂, q₃⟩

/-! many facts at once -/
structure And4 (p1 p2 p3 p4 : Prop) : Prop where
  h1 : p1
  h2 : p2
  h3 : p3
  h4 : p4
structure And5 (p1 p2 p3 p4 p5 : Prop) : Prop where
  h1 : p1
  h2 : p2
  h3 : p3
  h4 : p4
  h5 : p5
structure And6 (p1 p2 p3 p4 p5 p6 : Prop) : Prop where
  h1 : p1
  h2 : p2
  h3 : p3
  h4 : p4
  h5 : p5
  h6 : p6
structure And8 (p1 p2 p3 p4 p5 p6 p7 p8 : Prop) : Prop where
  h1 : p1
  h2 : p2
  h3 : p3
  h4 : p4
  h5 : p5
  h6 : p6
  h7 : p7
  h8 : p8
structure And10 (p1 p2 p3 p4 p5 p6 p7 p8 p9 p10 : Prop) : Prop where
  h1 : p1
  h2 : p2
  h3 : p3
  h4 : p4
  h5 : p5
  h6 : p6
  h7 : p7
  h8 : p8
  h9 : p9
  h10 : p10
/-- a post that another leads to: stands for it, small, through a walk -/
def Leads (Q₁ Q : Fl → Vars → Hp → Prop) : Prop := ∀ f m σ, Q₁ f m σ → Q f m σ
theorem Leads.refl {Q : Fl → Vars → Hp → Prop} : Leads Q Q := fun _ _ _ h => h
theorem Leads.go {Q₁ Q : Fl → Vars → Hp → Prop} {f : Fl} {m : Vars} {σ : Hp} (h : Leads Q₁ Q) (h₁ : Q₁ f m σ) : Q f m σ := h f m σ h₁

theorem for_ {target iter : Expr} {body : List Stmt} (hh : c.A.handled = none) (src : V → Src) (Inv : V → Nat → Vars → Hp → Prop)
    (h : Ev c E (eval iter env) m σ fun v m₁ σ₁ => (src v).Is c σ₁ v ∧ Inv v 0 m₁ σ₁)
    (ok : ∀ v i m σ, Inv v i m σ → (src v).Ok c σ)
    (turn : ∀ v i m σ u, Inv v i m σ → (src v).items[i]? = some u → ∀ val, er val = u → ∀ Q, Leads (Turn (Inv v (i + 1)) QF) Q → W c NoE (assign target env val) m σ fun _ m₂ σ₂ => X c NoE (execs body env) m₂ σ₂ Q)
    (fin : ∀ v m σ, Inv v (src v).items.length m σ → QF .next m σ)
    (hs : ∀ x, foldedSetIterable iter env x = pure x := by intro _; rfl) (ht : ∀ it v, letOwnedTupleGo target it v = pure () := by intro _ _; rfl) :
    X c E (exec (.For target iter body [] pos) env) m σ QF :=
  forx hh (W.mono h fun v m₁ σ₁ q => ⟨src (er v), Inv (er v), q.1, q.2, ok _, fun i m σ u a b val e => turn _ i m σ u a b val e _ Leads.refl, fin _⟩) hs ht

inductive ForI (c : Cx) (env : Env) (target : Expr) (body : List Stmt) (v : V) (m₁ : Vars) (σ₁ : Hp) (QF : Fl → Vars → Hp → Prop) : Prop
  | mk (src : Src) (Inv : Nat → Vars → Hp → Prop) (is : src.Is c σ₁ v) (h0 : Inv 0 m₁ σ₁) (ok : ∀ i m σ, Inv i m σ → src.Ok c σ)
    (turn : ∀ i m σ u, Inv i m σ → src.items[i]? = some u → ∀ val, er val = u → ∀ Q, Leads (Turn (Inv (i + 1)) QF) Q → W c NoE (assign target env val) m σ fun _ m₂ σ₂ => X c NoE (execs body env) m₂ σ₂ Q) (fin : ∀ m σ, Inv src.items.length m σ → QF .next m σ)
theorem forL {target iter : Expr} {body : List Stmt} (hh : c.A.handled = none) (h : Ev c E (eval iter env) m σ fun v m₁ σ₁ => ForI c env target body v m₁ σ₁ QF)
    (hs : ∀ x, foldedSetIterable iter env x = pure x := by intro _; rfl) (ht : ∀ it v, letOwnedTupleGo target it v = pure () := by intro _ _; rfl) :
    X c E (exec (.For target iter body [] pos) env) m σ QF :=
  forx hh (W.mono h fun v m₁ σ₁ ⟨src, Inv, a, b, ok, turn, fin⟩ => ⟨src, Inv, a, b, ok, fun i m σ u x y val e => turn i m σ u x y val e _ Leads.refl, fin⟩) hs ht

theorem while_ {test : Expr} {body : List Stmt} (Inv : Nat → Vars → Hp → Prop) (n : Nat) (h0 : Inv n m σ)
    (turn : ∀ n m σ, Inv n m σ → ∀ Q, Leads (Turn (fun m₂ σ₂ => ∃ k, k < n ∧ Inv k m₂ σ₂) QF) Q → W c NoE (isTrue test env (eval test env)) m σ fun b m₁ σ₁ => (b = true → X c NoE (execs body env) m₁ σ₁ Q) ∧ (b = false → QF .next m₁ σ₁)) :
    X c E (exec (.While test body [] pos) env) m σ QF := fun s S => by
  refine wpAny_While (codeAny_whileLoop (fun k s' => ∃ m' σ', Pst c σ s m' σ' s' ∧ Inv k m' σ') ?_ n ⟨m, σ, .refl S, h0⟩)
  rintro k s' ⟨m', σ', P, hI⟩
  refine wpAny_mono (turn k m' σ' hI _ Leads.refl s' P.st) (fun b s₁ ⟨m₁, σ₁, p, q⟩ => ?_) fun _ _ e => e.elim
  cases b with
  | true =>
    refine wpAny_mono (q.1 rfl s₁ p.st) (fun f s₂ ⟨m₂, σ₂, p₂, q₂⟩ => ?_) fun _ _ e => e.elim
    have P₂ := (P.trans p).trans p₂
    cases f with
    | next => obtain ⟨j, hj, q⟩ := q₂; exact ⟨j, hj, m₂, σ₂, P₂, q⟩
    | cont => obtain ⟨j, hj, q⟩ := q₂; exact ⟨j, hj, m₂, σ₂, P₂, q⟩
    | brk => exact ⟨m₂, σ₂, P₂, q₂⟩
    | ret rv => exact ⟨m₂, σ₂, P₂, q₂⟩
  | false => exact wpAny_execs_nil ⟨m₁, σ₁, P.trans p, q.2 rfl⟩
end
end Mine

namespace Mine
open PySem PySem.Calls PyProof.Rows PySem.SeqAt

theorem strsAre {vs : List Value} : ∀ {ss : List Str}, vs.map er = ss.map V.str → StrsAre vs ss := by
  induction vs with
  | nil => intro ss h; cases ss with | nil => exact .nil | cons _ _ => simp at h
  | cons v vs ih =>
    intro ss h
    cases ss with
    | nil => simp at h
    | cons x ss =>
      simp only [List.map_cons, List.cons.injEq] at h
      obtain ⟨t, rfl⟩ := er_str h.1
      exact .cons x t (ih h.2)
theorem strsAre_er {vs : List Value} {ss : List Str} (h : StrsAre vs ss) : vs.map er = ss.map V.str := by
  induction h with
  | nil => rfl
  | cons y t _ ih => simp [er, ih]
theorem boolsAre {vs : List Value} : ∀ {bs : List Bool}, vs.map er = bs.map V.bool → LSm.BoolsAre vs bs := by
  induction vs with
  | nil => intro ss h; cases ss with | nil => exact .nil | cons _ _ => simp at h
  | cons v vs ih =>
    intro ss h
    cases ss with
    | nil => simp at h
    | cons x ss =>
      simp only [List.map_cons, List.cons.injEq] at h
      obtain rfl := er_bool h.1
      exact .cons x (ih h.2)

section
variable {c : Cx} {E : Value → Shared → Prop} {m : Vars} {σ : Hp} {env : Env} {x : Str} {pos : Pos} {v : V} {Q : V → Vars → Hp → Prop} {QU : Unit → Vars → Hp → Prop} {QF : Fl → Vars → Hp → Prop}

theorem call_blt {func e : Expr} {rest : List Expr} (h : Ev c E (eval func env) m σ fun fv m₁ σ₁ => ∃ id, fv = .blt id ∧ Evs c E (spliced (backTo pos (starEach (e :: rest) env))) m₁ σ₁ fun vs m₂ σ₂ => ∀ vals, vals.map er = vs → Ev c E (call (.builtin id) vals) m₂ σ₂ Q)
    (he' : eval (.Call func (e :: rest) [] pos) env = (do callWith pos (← eval func env) [] (backTo pos (starEach (e :: rest) env)) (backToKw pos (keywordEach [] env))) := by rfl)
    (he : starEach (e :: rest) env = (false, eval e env) :: starEach rest env := by rfl) (hplain : (backTo pos (starEach rest env)).any (·.1) = false := by rfl) : Ev c E (eval (.Call func (e :: rest) [] pos) env) m σ Q := fun s S => by
  refine Call_ (W.step h S fun fv s₁ m₁ σ₁ p q => ?_) he'
  obtain ⟨id, e1, q⟩ := q
  rw [er_blt e1]
  exact callWith_builtin1 (W.step q p.st fun vs s₂ m₂ σ₂ p₂ q₂ => W.step (q₂ vs rfl) p₂.st fun _ _ _ _ p₃ q₃ => done ((p.trans p₂).trans p₃) q₃) he hplain
theorem call_typ {func e : Expr} {rest : List Expr} (h : Ev c E (eval func env) m σ fun fv m₁ σ₁ => ∃ id, fv = .ty id ∧ Evs c E (spliced (backTo pos (starEach (e :: rest) env))) m₁ σ₁ fun vs m₂ σ₂ => ∀ vals, vals.map er = vs → Ev c E (call (.type id) vals) m₂ σ₂ Q)
    (he' : eval (.Call func (e :: rest) [] pos) env = (do callWith pos (← eval func env) [] (backTo pos (starEach (e :: rest) env)) (backToKw pos (keywordEach [] env))) := by rfl)
    (he : starEach (e :: rest) env = (false, eval e env) :: starEach rest env := by rfl) (hplain : (backTo pos (starEach rest env)).any (·.1) = false := by rfl) : Ev c E (eval (.Call func (e :: rest) [] pos) env) m σ Q := fun s S => by
  refine Call_ (W.step h S fun fv s₁ m₁ σ₁ p q => ?_) he'
  obtain ⟨id, e1, q⟩ := q
  rw [er_ty e1]
  exact callWith_type1 (W.step q p.st fun vs s₂ m₂ σ₂ p₂ q₂ => W.step (q₂ vs rfl) p₂.st fun _ _ _ _ p₃ q₃ => done ((p.trans p₂).trans p₃) q₃) he hplain

theorem one_val {vals : List Value} {u : V} (h : vals.map er = [u]) : ∃ a, vals = [a] ∧ er a = u := by
  obtain ⟨a, rfl⟩ := List.length_eq_one_iff.mp (show vals.length = 1 by simpa using congrArg List.length h)
  exact ⟨a, rfl, by simpa using h⟩

theorem f_len {vals : List Value} {l : Addr} {xs : List V} (hv : vals.map er = [.ref l]) (hl : Sees c σ l (.list xs)) (hz : xs.length ≤ 1000) (h : Q (.int (xs.length : Nat)) m σ) : Ev c E (call (.builtin "len") vals) m σ Q := fun s S => by
  obtain ⟨a, rfl, e⟩ := one_val hv
  obtain rfl := er_ref e
  obtain ⟨items, n, h1, h2⟩ := hl.at S
  have e1 : items.size = xs.length := by simpa using congrArg List.length h2
  exact call_len_list h1.isList (by omega) (done (S.toks _) (by rw [e1]; exact h))
theorem f_len_tuple {vals : List Value} {l : Addr} {xs : List V} (hv : vals.map er = [.ref l]) (hl : Sees c σ l (.tuple xs)) (hz : xs.length ≤ 1000) (h : Q (.int (xs.length : Nat)) m σ) : Ev c E (call (.builtin "len") vals) m σ Q := fun s S => by
  obtain ⟨a, rfl, e⟩ := one_val hv
  obtain rfl := er_ref e
  obtain ⟨items, n, h1, h2⟩ := hl.at S
  have e1 : items.size = xs.length := by simpa using congrArg List.length h2
  exact len_tuple ⟨_, h1, rfl, n, rfl⟩ (by omega) (done (S.toks _) (by rw [e1]; exact h))
theorem f_sorted {vals : List Value} {l : Addr} {ss : List Str} (hv : vals.map er = [.ref l]) (hl : Sees c σ l (.list (ss.map V.str))) (hz : ss.length < 64)
    (h : ∀ r ss', σ r = none → ss'.Perm ss → sortedS ss' = true → Q (.ref r) m (upd σ r (.list (ss'.map V.str)))) : Ev c E (call (.builtin "sorted") vals) m σ Q := fun s S => by
  obtain ⟨a, rfl, e⟩ := one_val hv
  obtain rfl := er_ref e
  obtain ⟨items, n, h1, h2⟩ := hl.at S
  have e1 : items.size = ss.length := by simpa using congrArg List.length h2
  refine sorted_strs (vs := items.toList) (by simpa using h1.isList) (strsAre h2) (by simpa [e1] using hz) fun out ss' k1 k2 k3 => ?_
  obtain ⟨ep, he⟩ := sortedAll_at s.heap items.toList out
  have hn : s.heap.get? (s.heap.objs.size + 1) = none := by
    cases q : s.heap.get? (s.heap.objs.size + 1) with
    | none => rfl
    | some o => exact absurd (Heap.lt_size q) (Nat.not_lt_of_le (Nat.le_succ _))
  obtain ⟨p, hσ⟩ := S.alloc (tk := s.toks) (o := .list (ss'.map V.str)) (fun b o e => sortedAll_old e) hn ⟨out, ep, he, strsAre_er k1⟩
  exact done p (h _ ss' hσ k2 k3)
theorem f_all {vals : List Value} {l : Addr} {bs : List Bool} (hh : c.A.handled = none) (hv : vals.map er = [.ref l]) (hl : Sees c σ l (.list (bs.map V.bool))) (h : Q (.bool (bs.all id)) m σ) : Ev c E (call (.builtin "all") vals) m σ Q := fun s S => by
  obtain ⟨a, rfl, e⟩ := one_val hv
  obtain rfl := er_ref e
  obtain ⟨items, n, h1, h2⟩ := hl.at S
  have hb := boolsAre h2
  have hlt : l < s.heap.objs.size := Heap.lt_size h1
  refine call_all_walk (wpAny_pyIter_list h1.isList ?_)
  refine ⟨s.heap.objs.size, [s.heap.objs.size, l], [s.heap.objs.size], items.size, _, _, fun i => (bs[i]?).getD true, rfl, Walks.list (A := c.A.in1) hh _ l (Nat.ne_of_lt hlt) items,
    ⟨⟨_, Heap.get?_push_size _ rfl, rfl, rfl⟩, h1.isList.push _⟩, fun i v s' Q' E' hP hQ => ?_, fun h' tk hk => ?_⟩
  · obtain ⟨b, e, rfl⟩ := hb.get i v (by simpa using hP)
    simp only [e, Option.getD_some] at hQ
    exact wpAny_truthy_bool hQ
  · have e1 : items.size = bs.length := by simpa using congrArg List.length h2
    have e : ((List.range items.size).all fun i => (bs[i]?).getD true) = bs.all id := by rw [e1]; exact LSm.range_all bs
    rw [e]
    exact done (val := .bool (bs.all id)) (S.keeps (tk := tk) (LSm.kept_iter hk)) h
theorem f_any {vals : List Value} {l : Addr} {bs : List Bool} (hh : c.A.handled = none) (hv : vals.map er = [.ref l]) (hl : Sees c σ l (.list (bs.map V.bool))) (h : Q (.bool (bs.any id)) m σ) : Ev c E (call (.builtin "any") vals) m σ Q := fun s S => by
  obtain ⟨a, rfl, e⟩ := one_val hv
  obtain rfl := er_ref e
  obtain ⟨items, n, h1, h2⟩ := hl.at S
  have hb := boolsAre h2
  have hlt : l < s.heap.objs.size := Heap.lt_size h1
  refine call_any_walk (wpAny_pyIter_list h1.isList ?_)
  refine ⟨s.heap.objs.size, [s.heap.objs.size, l], [s.heap.objs.size], items.size, _, _, fun i => (bs[i]?).getD false, rfl, Walks.list (A := c.A.in1) hh _ l (Nat.ne_of_lt hlt) items,
    ⟨⟨_, Heap.get?_push_size _ rfl, rfl, rfl⟩, h1.isList.push _⟩, fun i v s' Q' E' hP hQ => ?_, fun h' tk hk => ?_⟩
  · obtain ⟨b, e, rfl⟩ := hb.get i v (by simpa using hP)
    simp only [e, Option.getD_some] at hQ
    exact wpAny_truthy_bool hQ
  · have e1 : items.size = bs.length := by simpa using congrArg List.length h2
    have e : ((List.range items.size).any fun i => (bs[i]?).getD false) = bs.any id := by rw [e1]; exact LSm.range_any bs
    rw [e]
    exact done (val := .bool (bs.any id)) (S.keeps (tk := tk) (LSm.kept_iter hk)) h
theorem f_range {vals : List Value} {n : Int} (hv : vals.map er = [.int n]) (h : ∀ r, σ r = none → Q (.ref r) m (upd σ r (.range n))) : Ev c E (call (.type "range") vals) m σ Q := fun s S => by
  obtain ⟨a, rfl, e⟩ := one_val hv
  obtain ⟨t, rfl⟩ := er_int e
  obtain ⟨p, hσ⟩ := S.push (tk := s.toks + 1 + 1) (x := { cls := .type "range", data := .fields #[.int 0 s.toks, .int n t, .int 1 (s.toks + 1)] }) (o := .range n) ⟨_, _, _, Heap.get?_push_size _ rfl⟩
  exact call_range_1 (done p (h _ hσ))

theorem foldl_rep (y : Value) : ∀ (k : Nat) (acc : Array Value), (List.foldl (fun x1 x2 => x1 ++ x2) acc (List.replicate k (#[y] : Array Value))).toList = acc.toList ++ List.replicate k y := by
  intro k
  induction k with
  | zero => intro acc; simp
  | succ k ih => intro acc; rw [List.replicate_succ, List.foldl_cons, ih]; simp [List.replicate_succ]
theorem mul_one_list {prog : Program} {w : World} {A : Around} {s : Shared} {l : Addr} {y : Value} {k : Nat} {x : Int} {u : Tok} {Q : Value → Shared → Prop} (h1 : IsL s.heap l #[y] k) (hlo : -(2 ^ 63 : Int) ≤ x) (hhi : x < 2 ^ 63) (hsz : (#[y] : Array Value).size * x.toNat ≤ 2 ^ 24)
    (h : Q (.ref s.heap.objs.size) { s with heap := s.heap.push { cls := .type "list", data := .seq (List.foldl (fun x1 x2 => x1 ++ x2) #[] (List.replicate (if (#[y] : Array Value).isEmpty = true then 0 else x.toNat) #[y])) } }) :
    wpAny (model prog w) A (binaryOp .Mult (.ref l) (.int x u)) Q E s :=
  wpAny_binaryOp_repeat_ref (T := "list") (U := "int") (by decide) ⟨_, h1, rfl⟩ (fun s' => typeIs_int s' x u) noFill_list_mul F.fills_int_mul F.slot_int_rmul repeat_list F.slot_int_index.lookup
    (call_meets F.slot_int_rmul (typeIs_int s x u) F.entry_int_rmul (F.args_int_rmul_2 _ _) (int___rmul___int_list x u l _ k)
      ⟨h1, rfl, ⟨_, h1, rfl⟩, call_meets F.slot_list_mul ⟨_, h1, rfl⟩ F.entry_list_mul (F.args_list_mul_2 _ _)
        (AutoListH.list___mul___list_int_3 l _ k x u (by simp [Builtin.List.listFitsIndex]; omega) (by omega) (by simp [Builtin.List.listTooLong, sizeLine] at hsz ⊢; omega))
        ⟨h1, h⟩⟩)
theorem op_mull {b : V} {n : Nat} {l : Addr} (hl : Sees c σ l (.list [b])) (hn : n ≤ 1000)
    (h : ∀ r, σ r = none → Q (.ref r) m (upd σ r (.arr (List.replicate n b)))) : Op2 c E (binaryOp .Mult) (.ref l) (.int n) m σ Q := fun va vb ha hb s S => by
  obtain rfl := er_ref ha
  obtain ⟨u, rfl⟩ := er_int hb
  obtain ⟨items, k, h1, h2⟩ := hl.at S
  obtain ⟨items⟩ := items
  obtain ⟨y, rfl, hy⟩ := one_val (show items.map er = [b] from h2)
  have en : (if (#[y] : Array Value).isEmpty = true then 0 else (n : Int).toNat) = n := by simp
  refine mul_one_list h1 (by omega) (by omega) (by simp; omega) ?_
  rw [en]
  obtain ⟨p, hσ⟩ := S.push (tk := s.toks) (x := { cls := .type "list", data := .seq (List.foldl (fun x1 x2 => x1 ++ x2) #[] (List.replicate n #[y])) }) (o := .arr (List.replicate n b))
    ⟨_, (IsL.new _ _).isList, by rw [foldl_rep]; simp [hy]⟩
  exact done p (h _ hσ)
end
end Mine

namespace Mine
open PySem PySem.Calls PyProof.Rows PySem.SeqAt

/-- what may be read -/
abbrev Vw := Addr → O → Prop
def own (σ : Hp) : Vw := fun a o => σ a = some o
/-- the module's names -/
structure Mod where
  p : Program
  q : Program
  w : World
  loose : List Str
  mean : ExcName → Option Value
  mg : Str → Option Value
  mb : Str → Option Value
def Mod.Top (M : Mod) (h : Heap) : Prop := PyProof.Rows.Top M.q M.loose M.mean M.mg M.mb h
theorem Mod.Top.keeps {M : Mod} {h h' : Heap} (T : M.Top h) (k : ∀ b o, h.get? b = some o → h'.get? b = some o) : M.Top h' := PyProof.Rows.Top.keeps T k

def Mono (P : Vw → Prop) : Prop := ∀ A B : Vw, (∀ a o, A a o → B a o) → P A → P B

/-- the module has this def -/
def Fn (M : Mod) (f : Str) : Prop := ∀ h, M.Top h → ∃ fa o fd, M.mg f = some (.ref fa) ∧ h.get? fa = some o ∧ o.data = .func fd

/-- what a def of the module does, called with these arguments where Pre holds -/
structure Spec (M : Mod) (n : Nat) (f : Str) (args : List V) (Pre : Vw → Prop) (R : V → Vw → Prop) : Prop where
  mono : Mono Pre
  monoR : ∀ v, Mono (R v)
  run : ∀ (A : Around) (s : Shared) (fa : Addr) (vals : List Value), Room n A → M.Top s.heap → M.mg f = some (.ref fa) → vals.map er = args → Pre (fun a o => o.At M.p M.w s.heap a) → s.gens = #[] →
    codeAny (model M.p M.w) A (.call (.ref fa) ⟨vals, []⟩) (fun r s' => ∃ v σ', r = .ok (.ret v) ∧ (∀ b o, s.heap.get? b = some o → s'.heap.get? b = some o) ∧ s'.gens = #[] ∧ s'.os = s.os ∧
      (∀ a o, σ' a = some o → o.At M.p M.w s'.heap a ∧ s.heap.get? a = none) ∧ R (er v) (own σ')) s

/-- what a call has made -/
def made (σ₁ σ₂ : Hp) : Vw := fun a o => σ₂ a = some o ∧ σ₁ a = none

def merge (σ σ' : Hp) : Hp := fun a => (σ a).or (σ' a)

section
variable {M : Mod} {c : Cx} {E : Value → Shared → Prop} {m : Vars} {σ : Hp} {env : Env} {x : Str} {pos : Pos} {v : V} {Q : V → Vars → Hp → Prop} {QF : Fl → Vars → Hp → Prop}

/-- the frame stands in the module -/
structure In (M : Mod) (c : Cx) (env : Env) (n : Nat) : Prop where
  env : EnvOk c env
  p : c.prog = M.p
  w : c.w = M.w
  top : M.Top c.g
  room : Room n c.A

inductive CallN (M : Mod) (c : Cx) (f : Str) (k : Nat) (vs : List V) (σ : Hp) (K : V → Hp → Prop) : Prop
  | mk (n : Nat) (Pre : Vw → Prop) (R : V → Vw → Prop) (S : Spec M n f vs Pre R) (hn : n ≤ k) (hpre : Pre (Sees c σ)) (q : ∀ v σ₂, (∀ a o, σ a = some o → σ₂ a = some o) → R v (made σ σ₂) → K v σ₂)
inductive CallO (M : Mod) (c : Cx) (f : Str) (k : Nat) (vs : List V) (σ : Hp) (K : V → Hp → Prop) : Prop
  | mk (n : Nat) (Pre : Vw → Prop) (R : V → Vw → Prop) (S : Spec M n f vs Pre R) (hn : n ≤ k) (hpre : Pre (Sees c σ)) (q : ∀ v σ₂, (∀ a o, σ a = some o → σ₂ a = some o) → R v (own σ₂) → K v σ₂)
theorem call_defN {f : Str} {np : Pos} {e : Expr} {rest : List Expr} {k : Nat} (I : In M c env k) (hk : env.kindOf f = some .globalImplicit) (hF : Fn M f)
    (h : Evs c E (spliced (backTo pos (starEach (e :: rest) env))) m σ fun vs m₁ σ₁ => CallN M c f k vs σ₁ fun v σ₂ => Q v m₁ σ₂)
    (he' : eval (.Call (.Name f np) (e :: rest) [] pos) env = (do callWith pos (← eval (.Name f np) env) [] (backTo pos (starEach (e :: rest) env)) (backToKw pos (keywordEach [] env))) := by rfl)
    (he : starEach (e :: rest) env = (false, eval e env) :: starEach rest env := by rfl) (hd : (f == ("__debug__" : Str)) = false := by decide) : Ev c E (eval (.Call (.Name f np) (e :: rest) [] pos) env) m σ Q := fun s St₀ => by
  obtain ⟨fa, o, fd, hmg, ho, hdat⟩ := hF c.g I.top
  refine Call_ ?_ he'
  refine Name_function_global I.env.kind hk (loadGlobal_global (I.env.glob ▸ I.top.g.keeps St₀.keep) hmg ?_) hd
  refine callWith_def hdat (W.step h St₀ fun vs s₁ m₁ σ₁ p q => ⟨p.st.keep _ _ ho, ?_⟩) he
  obtain ⟨n, Pre, R, S, hn, hpre, q⟩ := q
  have hpre' : Pre (fun a o => o.At M.p M.w s₁.heap a) := S.mono _ _ (fun a o hs => by have := Sees.at hs p.st; rw [I.p, I.w] at this; exact this) hpre
  have hrun := S.run c.A s₁ fa vs (I.room.less hn) (I.top.keeps p.st.keep) hmg rfl hpre' p.st.gens
  have hM : c.M = model M.p M.w := by unfold Cx.M; rw [I.p, I.w]
  refine wpAny_call (codeAny_mono (by rw [hM]; exact hrun) fun r s' hr => ?_)
  obtain ⟨v, σ', rfl, k1, k2, k3, k4, k5⟩ := hr
  have p₂ : Pst c σ₁ s₁ m₁ (merge σ₁ σ') s' := by
    have hnew : ∀ a o, σ' a = some o → a ≠ c.L ∧ c.g.get? a = none ∧ σ₁ a = none := fun a o e => p.st.hole (k4 a o e).2
    refine ⟨⟨?_, fun b o e => k1 b o (p.st.keep b o e), fun a o e => ?_, p.st.above, k2, k3.trans p.st.os⟩, fun b o _ _ e => k1 b o e, fun b o e h2 => ?_⟩
    · obtain ⟨m', h1, h2⟩ := p.st.ns
      exact ⟨m', h1.keeps k1, h2⟩
    · unfold merge at e
      cases h1 : σ₁ a with
      | some o' =>
        rw [h1] at e
        cases e
        obtain ⟨q1, q2⟩ := p.st.own a o h1
        exact ⟨q1.keeps fun y hy => k1 a y hy, q2⟩
      | none =>
        rw [h1] at e
        have e : σ' a = some o := e
        refine ⟨?_, (hnew a o e).1, (hnew a o e).2.1⟩
        rw [I.p, I.w]; exact (k4 a o e).1
    · unfold merge at e
      rw [h2] at e
      exact (k4 b o e).2
  refine done (p.trans p₂) (q _ _ (fun a o e => by unfold merge; rw [e]; rfl) (S.monoR _ _ _ (fun a o e => ?_) k5))
  have := (p.st.hole (k4 a o e).2).2.2
  refine ⟨?_, this⟩
  show merge σ₁ σ' a = some o
  unfold merge; rw [this]; exact e

theorem call_def {f : Str} {np : Pos} {e : Expr} {rest : List Expr} {k : Nat} (I : In M c env k) (hk : env.kindOf f = some .globalImplicit) (hF : Fn M f)
    (h : Evs c E (spliced (backTo pos (starEach (e :: rest) env))) m σ fun vs m₁ σ₁ => CallO M c f k vs σ₁ fun v σ₂ => Q v m₁ σ₂)
    (he' : eval (.Call (.Name f np) (e :: rest) [] pos) env = (do callWith pos (← eval (.Name f np) env) [] (backTo pos (starEach (e :: rest) env)) (backToKw pos (keywordEach [] env))) := by rfl)
    (he : starEach (e :: rest) env = (false, eval e env) :: starEach rest env := by rfl) (hd : (f == ("__debug__" : Str)) = false := by decide) : Ev c E (eval (.Call (.Name f np) (e :: rest) [] pos) env) m σ Q :=
  call_defN I hk hF (W.mono h fun vs m₁ σ₁ ⟨n, Pre, R, S, hn, hpre, q⟩ => ⟨n, Pre, R, S, hn, hpre, fun v σ₂ hext hR => q v σ₂ hext (S.monoR v _ _ (fun a o h => h.1) hR)⟩) he' he hd
end
end Mine

namespace Mine
open PySem PySem.Calls PyProof.Rows PySem.SeqAt

theorem ofString_ne {a b : String} (h : a ≠ b) : Str.ofString a ≠ Str.ofString b := fun e => h (by
  rw [Str.ofString_eq_toList, Str.ofString_eq_toList] at e
  have e1 : (a.toList.map Char.toNat).toArray = (b.toList.map Char.toNat).toArray := congrArg Str.cps e
  have e2 : a.toList.map Char.toNat = b.toList.map Char.toNat := by simpa using e1
  have inj : ∀ (l l' : List Char), l.map Char.toNat = l'.map Char.toNat → l = l' := by
    intro l
    induction l with
    | nil => intro l' h; cases l' with | nil => rfl | cons _ _ => simp at h
    | cons x l ih =>
      intro l' h
      cases l' with
      | nil => simp at h
      | cons y l' =>
        simp only [List.map_cons, List.cons.injEq] at h
        have : x = y := Char.toNat_inj.mp h.1
        rw [this, ih l' h.2]
  have := inj _ _ e2
  exact String.ext this)
theorem upd_new {κ β : Type} [DecidableEq κ] {f : κ → Option β} {k k' : κ} {v u : β} (h : f k = none) (e : f k' = some u) : upd f k v k' = some u := upd_ne (fun q => by rw [q, h] at e; cases e) e
theorem ne_of_new {κ β : Type} {f : κ → Option β} {k k' : κ} {u : β} (h : f k = none) (e : f k' = some u) : k' ≠ k := fun q => by rw [q, h] at e; cases e
theorem upd_none {κ β : Type} [DecidableEq κ] {f : κ → Option β} {k k' : κ} {v : β} (h : k' ≠ k) (e : f k' = none) : upd f k v k' = none := upd_ne h e

def V.addr : V → Addr
  | .ref a => a
  | _ => 0

abbrev pw : Program := PySem.Challenge.pw_k18_0038
abbrev G := List (Str × List Str)

def vars0 : List Str → List V → Vars
  | x :: xs, v :: vs => upd (vars0 xs vs) x v
  | _, _ => fun _ => none
theorem vars0_le : ∀ (names : List Str) (vals : List Value) (args : List V), names.Nodup → vals.map er = args → ∀ x v, vars0 names args x = some v → ∃ val, (names.zip vals).reverse.lookup x = some val ∧ er val = v := by
  intro names
  induction names with
  | nil => intro vals args _ _ x v h; cases h
  | cons y names ih =>
    intro vals args hnd hv x v h
    cases vals with
    | nil => subst hv; cases h
    | cons u vals =>
      subst hv
      simp only [List.map_cons, vars0, upd] at h
      rw [List.zip_cons_cons, List.reverse_cons, List.lookup_append]
      split at h
      · rename_i hx
        subst hx
        cases h
        have hno : (names.zip vals).reverse.lookup x = none := by
          rw [List.lookup_eq_none_iff]
          intro p hp
          have : p.1 ∈ names := (List.of_mem_zip (List.mem_reverse.mp hp)).1
          have hn := (List.nodup_cons.mp hnd).1
          rw [bne_iff_ne]
          exact fun e => hn (e ▸ this)
        refine ⟨u, by rw [hno]; simp, rfl⟩
      · obtain ⟨val, h1, h2⟩ := ih vals _ (List.nodup_cons.mp hnd).2 rfl x v h
        exact ⟨val, by rw [h1]; rfl, h2⟩

/-- the record of a def in the text -/
theorem Mod.fnAt {M : Mod} (hp : recsOf M.q = recsOf pw) {h : Heap} (T : M.Top h) {k : Nat} {d : DefRec} (e : (recsOf pw)[k]? = some d) :
    ∃ a o pm code doc, M.mg d.name = some (.ref a) ∧ h.get? a = some o ∧ o.data = .func (docDef d.name d.params d.body d.scope pm code doc) ∧ h.CodeRec code d.name :=
  PyProof.Rows.Top.fn T d (hp ▸ List.mem_of_getElem? e)
theorem Mod.fn {M : Mod} (hp : recsOf M.q = recsOf pw) (k : Nat) {d : DefRec} (e : (recsOf pw)[k]? = some d) : Fn M d.name := fun h T => let ⟨f, o, _, _, _, h1, h2, h3, _⟩ := M.fnAt hp T e; ⟨f, o, _, h1, h2, h3⟩
theorem same_addr {mg : Str → Option Value} {x : Str} {a b : Addr} (h1 : mg x = some (.ref a)) (h2 : mg x = some (.ref b)) : a = b := by rw [h1] at h2; cases h2; rfl

def baseOf (c : Cx) : Vw := fun a o => o.At c.prog c.w c.g a

theorem Sees.base {c : Cx} {σ : Hp} {a : Addr} {o : O} (h : baseOf c a o) : Sees c σ a o := .inr h
theorem Sees.own {c : Cx} {σ : Hp} {a : Addr} {o : O} (h : σ a = some o) : Sees c σ a o := .inl h
theorem mkSpec {M : Mod} (hp : recsOf M.q = recsOf pw) (k : Nat) {d : DefRec} {n : Nat} {args : List V} {Pre : Vw → Prop} {R : V → Vw → Prop} (names : List Str) (e : (recsOf pw)[k]? = some d)
    (hnd : names.Nodup) (hloc : (names.all fun x => decide (d.scope.names.lookup x = some .local)) = true) (hcell : (d.scope.names.all fun x => x.2 != .cell) = true)
    (hbind : ∀ vals pm code doc, vals.map er = args → bindArgs (docDef d.name d.params d.body d.scope pm code doc) ⟨vals, []⟩ = pure (names.zip vals))
    (hco : d.scope.isCoroutine = false) (hgen : d.scope.isGenerator = false) (hk : d.scope.kind = .function) (mono : Mono Pre) (monoR : ∀ v, Mono (R v))
    (body : ∀ c L fa code, In M c (envOf d.name d.scope L fa code) n → Pre (baseOf c) → ∀ Q, Leads (fun f m σ => ∃ v, f = .ret v ∧ R v (own σ)) Q → X c NoE (execs d.body (envOf d.name d.scope L fa code)) (vars0 names args) (fun _ => none) Q) :
    Spec M (n + 1) d.name args Pre R where
  mono := mono
  monoR := monoR
  run := fun A s fa vals hroom T hmg hv hpre hg => by
    obtain ⟨f, o, pm, code, doc, h1, h2, h3, h4⟩ := M.fnAt hp T e
    obtain rfl := same_addr h1 hmg
    have hmem : ∀ x ∈ names.zip vals, x.1 ∈ names := fun x hx => (List.of_mem_zip hx).1
    refine call_plain hroom.depth h2 h3 T.nolimit h4 (hbind vals pm code doc hv) (fun x hx => of_decide_eq_true (List.all_eq_true.mp hloc x.1 (hmem x hx))) (fun h₁ F => ?_) hco hgen hk (fun x hx => by simpa using List.all_eq_true.mp hcell x hx)
    have I : In M { prog := M.p, w := M.w, A := A.deeper (envOf d.name d.scope s.heap.objs.size f code), g := s.heap, L := s.heap.objs.size, os := s.os } (envOf d.name d.scope s.heap.objs.size f code) n :=
      ⟨⟨rfl, hk, rfl, rfl⟩, rfl, rfl, T, hroom.deeper _⟩
    refine wpAny_mono (body _ _ _ _ I hpre _ Leads.refl { s with heap := h₁, toks := s.toks + (names.zip vals).length } ⟨⟨_, F.ns, fun y v e => vars0_le names vals args hnd hv y v e⟩, F.keep, fun _ _ e => (nomatch e), Nat.le_refl _, hg, rfl⟩) (fun fl s' ⟨m', σ', p, v, hv', hr⟩ => ?_) fun _ _ e => e.elim
    cases fl with
    | ret rv =>
      have hv'' : er rv = v := by simpa [erF] using hv'
      exact ⟨rv, σ', rfl, p.st.keep, p.st.gens, p.st.os, fun a o e => ⟨(p.st.own a o e).1, (p.st.own a o e).2.2⟩, hv'' ▸ hr⟩
    | next => cases hv'
    | brk => cases hv'
    | cont => cases hv'

section
variable {c : Cx} {E : Value → Shared → Prop} {m : Vars} {σ : Hp} {env : Env} {x : Str} {pos : Pos} {u : V} {val : Value} {QU : Unit → Vars → Hp → Prop}
theorem asg_local (ho : EnvOk c env) (hk : env.kindOf x = some .local) (hv : er val = u) (h : QU () (upd m x u) σ) : W c E (assign (.Name x pos) env val) m σ QU := fun s S => wpAny_assign_Name (store_local ho hk (hv ▸ h) s S)
theorem asg_cell {a : Addr} {v₀ : Option V} (ho : EnvOk c env) (hk : env.kindOf x = some .cell) (hc : env.cells.lookup x = some a) (hσ : σ a = some (.cell v₀)) (hv : er val = u) (h : QU () m (upd σ a (.cell (some u)))) :
    W c E (assign (.Name x pos) env val) m σ QU := fun s S => wpAny_assign_Name (store_cell ho hk hc hσ (hv ▸ h) s S)
end
theorem two_val {vals : List Value} {u v : V} (h : vals.map er = [u, v]) : ∃ a b, vals = [a, b] := by
  cases vals with
  | nil => cases h
  | cons a t => obtain ⟨b, rfl, _⟩ := one_val (List.cons.inj h).2; exact ⟨a, b, rfl⟩
theorem three_val {vals : List Value} {u v w : V} (h : vals.map er = [u, v, w]) : ∃ a b d, vals = [a, b, d] := by
  cases vals with
  | nil => cases h
  | cons a t => obtain ⟨b, d, rfl⟩ := two_val (List.cons.inj h).2; exact ⟨a, b, d, rfl⟩
theorem four_val {vals : List Value} {u v w x : V} (h : vals.map er = [u, v, w, x]) : ∃ a b d e, vals = [a, b, d, e] := by
  cases vals with
  | nil => cases h
  | cons a t => obtain ⟨b, d, e, rfl⟩ := three_val (List.cons.inj h).2; exact ⟨a, b, d, e, rfl⟩
end Mine

namespace Mine
open PySem PySem.Calls PyProof.Rows PySem.SeqAt

/-! a set of strs, rising and without repeats, is one list -/
def leS (a b : Str) : Prop := a.cps.toList ≤ b.cps.toList
theorem leS_of_rising : ∀ (r : List Str) (p : Str), risingS p r = true → (p :: r).Pairwise leS
  | [], p, _ => List.pairwise_singleton _ _
  | x :: r, p, h => by
    have h' : (!PySem.Spec.ltCps x.cps.toList p.cps.toList && risingS x r) = true := h
    rw [Bool.and_eq_true, ltCps_eq] at h'
    have h1 : leS p x := by
      have := h'.1
      simp only [Bool.not_eq_true', decide_eq_false_iff_not] at this
      exact List.not_lt.mp this
    have ih := leS_of_rising r x h'.2
    rw [List.pairwise_cons]
    refine ⟨fun y hy => ?_, ih⟩
    rcases List.mem_cons.mp hy with rfl | hy
    · exact h1
    · exact List.le_trans h1 ((List.pairwise_cons.mp ih).1 y hy)
theorem leS_of_sorted : ∀ (l : List Str), sortedS l = true → l.Pairwise leS
  | [], _ => .nil
  | x :: r, h => leS_of_rising r x h
theorem leS_antisymm {a b : Str} (h1 : leS a b) (h2 : leS b a) : a = b := by
  have e : a.cps.toList = b.cps.toList := List.le_antisymm h1 h2
  cases a; cases b
  congr
  exact Array.toList_inj.mp e

def Canon (l : List Str) : Prop := l.Nodup ∧ sortedS l = true
theorem Canon.ext {l k : List Str} (hl : Canon l) (hk : Canon k) (h : ∀ x, x ∈ l ↔ x ∈ k) : l = k :=
  List.Perm.eq_of_pairwise (le := leS) (fun _ _ _ _ => leS_antisymm) (leS_of_sorted _ hl.2) (leS_of_sorted _ hk.2) ((List.perm_ext_iff_of_nodup hl.1 hk.1).mpr h)
theorem Canon.nil : Canon [] := ⟨.nil, rfl⟩
theorem Canon.grows {l k : List Str} (hl : Canon l) (hk : Canon k) (h : ∀ x, x ∈ l → x ∈ k) (hne : k ≠ l) : l.length < k.length := by
  have h1 := List.Nodup.length_le_of_subset hl.1 h
  rcases Nat.lt_or_ge l.length k.length with q | q
  · exact q
  · exfalso
    refine hne (Canon.ext hk hl fun x => ⟨fun hx => ?_, h x⟩)
    -- a k's element missing in l would make k longer
    exact Classical.byContradiction fun hn => by
      have h2 : (x :: l).Nodup := List.nodup_cons.mpr ⟨hn, hl.1⟩
      have h3 : (x :: l) ⊆ k := fun y hy => (List.mem_cons.mp hy).elim (fun e => e ▸ hx) (h y)
      have := List.Nodup.length_le_of_subset h2 h3
      simp at this
      omega

/-! the built-in names are not bound by the module -/
def blts : List Str := [Str.ofString "sorted", Str.ofString "len", Str.ofString "all", Str.ofString "any", Str.ofString "range", Str.ofString "type", Str.ofString "bool"]
structure Ok (M : Mod) : Prop where
  p : recsOf M.q = recsOf pw
  pe : specOf M.q (Str.ofString "ParseError") = some ("Exception.__new__", [.type "Exception", .type "BaseException", .type "object"])
  blt : ∀ x ∈ blts, M.mg x = none

section
variable {M : Mod} {c : Cx} {E : Value → Shared → Prop} {m : Vars} {σ : Hp} {env : Env} {x : Str} {pos : Pos} {v : V} {Q : V → Vars → Hp → Prop} {n : Nat}
theorem name_blt (hM : Ok M) (I : In M c env n) (hk : env.kindOf x = some .globalImplicit) (hx : x ∈ blts) {val : Value} (hv : bootBuiltins x = some val) (hn : x ≠ "__name__") (h : Q (er val) m σ) (hd : (x == ("__debug__" : Str)) = false := by decide) :
    Ev c E (eval (.Name x pos) env) m σ Q := name_builtin I.env I.top hk hv (hM.blt x hx) hn h hd

inductive SortI (c : Cx) (vs : List V) (σ : Hp) (K : V → Hp → Prop) : Prop
  | mk (l : Addr) (ss : List Str) (e : vs = [.ref l]) (h : Sees c σ l (.list (ss.map V.str))) (hz : ss.length < 64) (q : ∀ r ss', σ r = none → ss'.Perm ss → sortedS ss' = true → K (.ref r) (upd σ r (.list (ss'.map V.str))))
inductive LenI (c : Cx) (vs : List V) (σ : Hp) (K : V → Prop) : Prop
  | mk (l : Addr) (xs : List V) (e : vs = [.ref l]) (h : Sees c σ l (.list xs) ∨ Sees c σ l (.tuple xs)) (hz : xs.length ≤ 1000) (q : K (.int (xs.length : Nat)))
theorem call_sorted {e : Expr} {np : Pos} (hM : Ok M) (I : In M c env n) (hk : env.kindOf (Str.ofString "sorted") = some .globalImplicit)
    (h : Evs c E (spliced (backTo pos (starEach [e] env))) m σ fun vs m₁ σ₁ => SortI c vs σ₁ fun v σ₂ => Q v m₁ σ₂)
    (he' : eval (.Call (.Name (Str.ofString "sorted") np) [e] [] pos) env = (do callWith pos (← eval (.Name (Str.ofString "sorted") np) env) [] (backTo pos (starEach [e] env)) (backToKw pos (keywordEach [] env))) := by rfl)
    (he : starEach [e] env = (false, eval e env) :: starEach [] env := by rfl) : Ev c E (eval (.Call (.Name (Str.ofString "sorted") np) [e] [] pos) env) m σ Q :=
  call_blt (name_blt hM I hk (by decide) boot_sorted (by decide) ⟨"sorted", rfl, W.mono h fun vs m₁ σ₁ ⟨l, ss, h1, h2, h3, h4⟩ vals hv => f_sorted (hv.trans h1) h2 h3 h4⟩) he' he rfl
theorem call_len {e : Expr} {np : Pos} (hM : Ok M) (I : In M c env n) (hk : env.kindOf (Str.ofString "len") = some .globalImplicit)
    (h : Evs c E (spliced (backTo pos (starEach [e] env))) m σ fun vs m₁ σ₁ => LenI c vs σ₁ fun v => Q v m₁ σ₁)
    (he' : eval (.Call (.Name (Str.ofString "len") np) [e] [] pos) env = (do callWith pos (← eval (.Name (Str.ofString "len") np) env) [] (backTo pos (starEach [e] env)) (backToKw pos (keywordEach [] env))) := by rfl)
    (he : starEach [e] env = (false, eval e env) :: starEach [] env := by rfl) : Ev c E (eval (.Call (.Name (Str.ofString "len") np) [e] [] pos) env) m σ Q :=
  call_blt (name_blt hM I hk (by decide) (val := .builtin "len") (by decide +kernel) (by decide) ⟨"len", rfl, W.mono h fun vs m₁ σ₁ ⟨l, ss, h1, h2, h3, h4⟩ vals hv => h2.elim (fun h2 => f_len (hv.trans h1) h2 h3 h4) fun h2 => f_len_tuple (hv.trans h1) h2 h3 h4⟩) he' he rfl
theorem call_all {e : Expr} {np : Pos} (hM : Ok M) (I : In M c env n) (hk : env.kindOf (Str.ofString "all") = some .globalImplicit)
    (h : Evs c E (spliced (backTo pos (starEach [e] env))) m σ fun vs m₁ σ₁ => ∃ l, ∃ bs : List Bool, vs = [.ref l] ∧ Sees c σ₁ l (.list (bs.map V.bool)) ∧ Q (.bool (bs.all id)) m₁ σ₁)
    (he' : eval (.Call (.Name (Str.ofString "all") np) [e] [] pos) env = (do callWith pos (← eval (.Name (Str.ofString "all") np) env) [] (backTo pos (starEach [e] env)) (backToKw pos (keywordEach [] env))) := by rfl)
    (he : starEach [e] env = (false, eval e env) :: starEach [] env := by rfl) : Ev c E (eval (.Call (.Name (Str.ofString "all") np) [e] [] pos) env) m σ Q :=
  call_blt (name_blt hM I hk (by decide) (val := .builtin "all") (by decide +kernel) (by decide) ⟨"all", rfl, W.mono h fun vs m₁ σ₁ ⟨l, bs, h1, h2, h3⟩ vals hv => f_all I.room.1 (hv.trans h1) h2 h3⟩) he' he rfl
theorem call_any {e : Expr} {np : Pos} (hM : Ok M) (I : In M c env n) (hk : env.kindOf (Str.ofString "any") = some .globalImplicit)
    (h : Evs c E (spliced (backTo pos (starEach [e] env))) m σ fun vs m₁ σ₁ => ∃ l, ∃ bs : List Bool, vs = [.ref l] ∧ Sees c σ₁ l (.list (bs.map V.bool)) ∧ Q (.bool (bs.any id)) m₁ σ₁)
    (he' : eval (.Call (.Name (Str.ofString "any") np) [e] [] pos) env = (do callWith pos (← eval (.Name (Str.ofString "any") np) env) [] (backTo pos (starEach [e] env)) (backToKw pos (keywordEach [] env))) := by rfl)
    (he : starEach [e] env = (false, eval e env) :: starEach [] env := by rfl) : Ev c E (eval (.Call (.Name (Str.ofString "any") np) [e] [] pos) env) m σ Q :=
  call_blt (name_blt hM I hk (by decide) (val := .builtin "any") (by decide +kernel) (by decide) ⟨"any", rfl, W.mono h fun vs m₁ σ₁ ⟨l, bs, h1, h2, h3⟩ vals hv => f_any I.room.1 (hv.trans h1) h2 h3⟩) he' he rfl
theorem call_range {e : Expr} {np : Pos} (hM : Ok M) (I : In M c env n) (hk : env.kindOf (Str.ofString "range") = some .globalImplicit)
    (h : Evs c E (spliced (backTo pos (starEach [e] env))) m σ fun vs m₁ σ₁ => ∃ k, vs = [.int k] ∧ ∀ r, σ₁ r = none → Q (.ref r) m₁ (upd σ₁ r (.range k)))
    (he' : eval (.Call (.Name (Str.ofString "range") np) [e] [] pos) env = (do callWith pos (← eval (.Name (Str.ofString "range") np) env) [] (backTo pos (starEach [e] env)) (backToKw pos (keywordEach [] env))) := by rfl)
    (he : starEach [e] env = (false, eval e env) :: starEach [] env := by rfl) : Ev c E (eval (.Call (.Name (Str.ofString "range") np) [e] [] pos) env) m σ Q :=
  call_typ (name_blt hM I hk (by decide) boot_range (by decide) ⟨"range", rfl, W.mono h fun vs m₁ σ₁ ⟨k, h1, h2⟩ vals hv => f_range (hv.trans h1) h2⟩) he' he rfl
/-- a new dict -/
theorem new_dict (hM : Ok M) (I : In M c env n) (h : ∀ a, σ a = none → Q (.ref a) m (upd σ a (.dict [] fun _ => none))) : Ev c E (eval (.Dict [] [] pos) env) m σ Q :=
  dict_disp (fun s S => by
    have h1 := S.lt
    have h2 := S.above
    have h3 : mainGlobals < c.g.objs.size := I.top.g.lt
    have h4 : (1 : Nat) < mainGlobals := by decide
    have : s.heap.objs.size ≠ sysModules := by
      show s.heap.objs.size ≠ (1 : Nat)
      exact Nat.ne_of_gt (Nat.lt_trans (Nat.lt_of_lt_of_le (Nat.lt_trans h4 h3) h2) h1)
    simpa using this) h
end
end Mine

namespace Mine
open PySem PySem.Calls PyProof.Rows PySem.SeqAt

theorem append_call {prog : Program} {w : World} {A : Around} {E : Value → Shared → Prop} {s : Shared} {l : Addr} {items : Array Value} {n : Nat} {x : Value} {Q : Value → Shared → Prop} (hl : IsL s.heap l items n) (hsz : items.size ≤ sizeLine)
    (h : Q .none { s with heap := s.heap.update l (Obj.mapSeq fun xs => xs.push x) }) : wpAny (model prog w) A (call (.builtin "list.append") [.ref l, x]) Q E s :=
  call_meets F.slot_list_append ⟨_, hl, rfl⟩ F.entry_list_append (F.args_list_append_2 _ _) (list_append l items n x hsz) ⟨hl, h⟩

def Cx.at (c : Cx) (C : Addr) : Cx := { c with L := C }

section
variable {c : Cx} {E : Value → Shared → Prop} {m : Vars} {σ : Hp} {env : Env} {x : Str} {pos : Pos} {v : V} {Q : V → Vars → Hp → Prop}

theorem comp_env {scope : Scope} {cl : List (Str × Addr)} {C : Addr} (ho : EnvOk c env) (hk : scope.kind = .function) : EnvOk (c.at C) (compEnvC scope cl C env) := ⟨rfl, hk, ho.glob, ho.blt⟩

theorem pyIter_self {src : Src} {s : Shared} {I : Addr} {i : Nat} {R : Value → Shared → Prop} (hat : src.At c.prog c.w s.heap I i) (h : R (.ref I) s) : wpAny c.M c.A (pyIter (.ref I)) R E s := by
  cases src with
  | list a xs => exact wpAny_pyIter_listiter hat.1 h
  | range n => exact wpAny_pyIter_rangeiter hat h

theorem Src.At.keeps {src : Src} {p : Program} {w : World} {h h' : Heap} {I : Addr} {i : Nat} (hat : src.At p w h I i) (k : ∀ b o, h.get? b = some o → h'.get? b = some o) : src.At p w h' I i := by
  cases src with
  | list a xs =>
    obtain ⟨⟨o, h1, h2⟩, h3⟩ := hat
    exact ⟨⟨o, k _ _ h1, h2⟩, h3.keeps fun x hx => k a x hx⟩
  | range n => exact k _ _ hat

/-- what stands between a comprehension's turns -/
inductive CompI (c : Cx) (σ₁ : Hp) (s₁ : Shared) (m₁ : Vars) (sr : Src) (I D C : Addr) (Inv : Nat → List V → Hp → Prop) (k : Nat) (s' : Shared) : Prop
  | mk (i : Nat) (ys : List V) (σ' : Hp) (P : Pst c σ₁ s₁ m₁ σ' s') (hInv : Inv i ys σ') (hat : sr.At c.prog c.w s'.heap I i) (items : Array Value) (n : Nat) (hit : IsL s'.heap D items n) (hys : items.toList.map er = ys) (mC : Str → Option Value) (hnC : s'.heap.Ns C mC)
    (hσI : σ' I = none) (hσD : σ' D = none) (hσC : σ' C = none) (hyl : ys.length ≤ i) (hi : i ≤ sr.items.length) (hk : k = sr.items.length + 1 - i)
theorem comp_back {c : Cx} {C : Addr} {σ₁ σ' σ₄ : Hp} {s₁ s₂ s₄ : Shared} {m₁ m₄ : Vars} (P₂ : Pst c σ₁ s₁ m₁ σ' s₂) (p₄ : Pst (c.at C) σ' s₂ m₄ σ₄ s₄) (hCL : C ≠ c.L) (hC : s₁.heap.get? C = none) :
    Pst c σ₁ s₁ m₁ σ₄ s₄ ∧ σ₄ C = none ∧ ∀ b o, b ≠ C → σ' b = none → s₂.heap.get? b = some o → s₄.heap.get? b = some o ∧ σ₄ b = none := by
  have hσL : σ' c.L = none := by
    cases e : σ' c.L with
    | none => rfl
    | some o => exact absurd rfl (P₂.st.own _ o e).2.1
  have notNew : ∀ b o, s₂.heap.get? b = some o → σ' b = none → σ₄ b = none := fun b o e hn => by
    cases e4 : σ₄ b with
    | none => rfl
    | some o4 => have := p₄.dom b o4 e4 hn; rw [e] at this; cases this
  obtain ⟨mL, ⟨oL, es, ep, hL1, hLr⟩, hLm⟩ := P₂.st.ns
  have hL4 := notNew c.L oL hL1 hσL
  refine ⟨⟨⟨⟨mL, ⟨oL, es, ep, p₄.frame c.L oL (Ne.symm hCL) hσL hL1, hLr⟩, hLm⟩, p₄.st.keep, fun a o e => ?_, P₂.st.above, p₄.st.gens, p₄.st.os⟩, fun b o hb hn e => ?_, fun b o e hn => ?_⟩, ?_, fun b o hb hn e => ⟨p₄.frame b o hb hn e, notNew b o e hn⟩⟩
  · obtain ⟨h1, h2, h3⟩ := p₄.st.own a o e
    exact ⟨h1, (fun q => by rw [q, hL4] at e; cases e), h3⟩
  · have hbC : b ≠ C := fun q => by rw [q, hC] at e; cases e
    refine p₄.frame b o hbC ?_ (P₂.frame b o hb hn e)
    cases e2 : σ' b with
    | none => rfl
    | some o2 => have := P₂.dom b o2 e2 hn; rw [e] at this; cases this
  · cases e2 : σ' b with
    | some o2 => exact P₂.dom b o2 e2 hn
    | none =>
      have h1 := p₄.dom b o e e2
      cases e3 : s₁.heap.get? b with
      | none => rfl
      | some o3 =>
        have hbL : b ≠ c.L := fun q => by rw [q, hL4] at e; cases e
        have := P₂.frame b o3 hbL hn e3
        rw [h1] at this; cases this
  · cases e4 : σ₄ C with
    | none => rfl
    | some o4 => exact absurd rfl (p₄.st.own C o4 e4).2.1
theorem Pst.adopt {c : Cx} {σ₁ σ' : Hp} {s₁ s' : Shared} {m₁ : Vars} {D : Addr} {o : O} (P : Pst c σ₁ s₁ m₁ σ' s') (hD : s₁.heap.get? D = none) (hL : D ≠ c.L) (hg : c.g.get? D = none) (ho : o.At c.prog c.w s'.heap D) : Pst c σ₁ s₁ m₁ (upd σ' D o) s' := by
  refine ⟨⟨P.st.ns, P.st.keep, fun a x e => ?_, P.st.above, P.st.gens, P.st.os⟩, P.frame, fun b x e h2 => ?_⟩
  · unfold upd at e
    split at e
    · rename_i ha; cases e; rw [ha]; exact ⟨ho, hL, hg⟩
    · exact P.st.own a x e
  · unfold upd at e
    split at e
    · rename_i hb; rw [hb]; exact hD
    · exact P.dom b x e h2
theorem comp_in {c : Cx} {C : Addr} {σ₁ σ' : Hp} {s₁ s₂ : Shared} {m₁ : Vars} {x : Str} {u : V} {uv : Value} {mC : Str → Option Value} (P₂ : Pst c σ₁ s₁ m₁ σ' s₂) (hn : s₂.heap.Ns C (fun y => if y = x then some uv else mC y)) (he : er uv = u) (hσC : σ' C = none) (hC : c.L < C) :
    St (c.at C) (upd (fun _ => none) x u) σ' s₂ := by
  refine ⟨⟨_, hn, fun y z e => ?_⟩, P₂.st.keep, fun a o e => ?_, Nat.le_trans P₂.st.above (Nat.le_of_lt hC), P₂.st.gens, P₂.st.os⟩
  · unfold upd at e
    split at e
    · rename_i hy; cases e; exact ⟨uv, by simp [hy], he⟩
    · cases e
  · obtain ⟨h1, h2, h3⟩ := P₂.st.own a o e
    exact ⟨h1, (fun q => by rw [q, show σ' (c.at C).L = σ' C from rfl, hσC] at e; cases e), h3⟩
theorem listcomp {elt iter : Expr} {px : Pos} {scope : Scope} {cl : List (Str × Addr)} (hh : c.A.handled = none) (ho : EnvOk c env) (src : V → Src) (Inv : V → Nat → List V → Hp → Prop)
    (h : Ev c E (eval iter env) m σ fun v m₁ σ₁ => (src v).Is c σ₁ v ∧ Inv v 0 [] σ₁ ∧ (src v).items.length ≤ 1000 ∧ ∀ ys σ₂ D, Inv v (src v).items.length ys σ₂ → σ₂ D = none → Q (.ref D) m₁ (upd σ₂ D (.list ys)))
    (ok : ∀ v i ys σ, Inv v i ys σ → (src v).Ok c σ)
    (turn : ∀ v i ys σ u C, Inv v i ys σ → (src v).items[i]? = some u → EnvOk (c.at C) (compEnvC scope cl C env) → Ev (c.at C) NoE (eval elt (compEnvC scope cl C env)) (upd (fun _ => none) x u) σ fun y _ σ' => Inv v (i + 1) (ys ++ [y]) σ')
    (hclos : closureFor scope env = pure cl) (hcell : (scope.names.all fun y => y.2 != .cell) = true) (hkind : scope.kind = .function)
    (hnames : (scope.names.all fun y => y.2 != .local || scope.names.lookup y.1 == some .local) = true) (hx : scope.names.lookup x = some .local)
    (hs : ∀ x, foldedSetIterable iter env x = pure x := by intro _; rfl) : Ev c E (eval (.ListComp elt [⟨.Name x px, iter, [], 0⟩] scope pos) env) m σ Q := fun s S => by
  rw [eval_ListComp]
  have hnames' : ∀ y ∈ scope.names, y.2 = .local → scope.names.lookup y.1 = some .local := fun y hy e => by
    have := List.all_eq_true.mp hnames y hy
    simpa [e] using this
  have hcell' : ∀ y ∈ scope.names, y.2 ≠ .cell := fun y hy => by simpa using List.all_eq_true.mp hcell y hy
  refine wpAny_comprehension_free (use := none) rfl hs hclos hkind hnames' (W.step h S fun val s₁ m₁ σ₁ p q => pyIter_src p.st q.1 fun I h' hI hat hk => ?_)
  obtain ⟨hIs, hI0, hlen, hQ⟩ := q
  generalize hsrc : src (er val) = sr at hat
  have holeI := p.st.hole hI
  have p₁ := p.st.keeps (tk := s₁.toks) hk
  -- the growing list
  refine wpAny_newObj_type (wpAny_newFunctionEnv hcell' (by intro y hy; simp at hy) (fun h₁ hns₁ hsb₁ => ?_) hkind)
  dsimp only at hns₁ hsb₁ ⊢
  generalize hH2 : h'.push { cls := .type "list", dict := none, data := .seq ([] : List Value).toArray } = H2 at hns₁ hsb₁ ⊢
  generalize hDe : h'.objs.size = D
  generalize hCe : H2.objs.size = C at hns₁ hsb₁
  have hCs : C = D + 1 := by rw [← hCe, ← hH2, Heap.size_push, hDe]
  have fresh : ∀ a, D ≤ a → h'.get? a = none := fun a ha => by
    cases e : h'.get? a with
    | none => rfl
    | some o => exact absurd (Heap.lt_size e) (Nat.not_lt.mpr (by rw [hDe]; exact ha))
  have freshS : ∀ a, D ≤ a → s₁.heap.get? a = none := fun a ha => by
    cases e : s₁.heap.get? a with
    | none => rfl
    | some o => have := fresh a ha; rw [hk a o e] at this; cases this
  have hD := freshS D (Nat.le_refl _)
  have hC := freshS C (by rw [hCs]; exact Nat.le_succ _)
  have holeD := p.st.hole hD
  have holeC := p.st.hole hC
  have hDC : D ≠ C := by rw [hCs]; exact Nat.ne_of_lt (Nat.lt_succ_self _)
  have hIlt : I ≠ D ∧ I ≠ C := by
    have : ∃ o, h'.get? I = some o := by
      cases sr with
      | list a xs => obtain ⟨⟨o, h1, _⟩, _⟩ := hat; exact ⟨o, h1⟩
      | range n => exact ⟨_, hat⟩
    obtain ⟨o, ho'⟩ := this
    have hlt : I < D := by rw [← hDe]; exact Heap.lt_size ho'
    exact ⟨Nat.ne_of_lt hlt, Nat.ne_of_lt (by rw [hCs]; exact Nat.lt_succ_of_lt hlt)⟩
  have old : ∀ b o, h'.get? b = some o → h₁.get? b = some o := fun b o e => by
    have hlt : b < D := by rw [← hDe]; exact Heap.lt_size e
    exact hsb₁.extBut b o (Nat.ne_of_lt (by rw [hCs]; exact Nat.lt_succ_of_lt hlt)) (Heap.get?_push_of_some _ (hH2 ▸ Heap.get?_push_of_some _ e))
  have hacc : IsL h₁ D #[] 0 := hsb₁.extBut D _ hDC (Heap.get?_push_of_some _ (hH2 ▸ hDe ▸ Heap.get?_push_size _ rfl))
  have hsrc' : src (er val) = sr := hsrc
  -- the loop
  have loop : ∀ s₃ : Shared, s₃ = { s₁ with heap := h₁, toks := s₁.toks + ([] : List (Str × Value)).length } →
      codeAny c.M c.A (.compLoop (.ListComp elt [⟨.Name x px, iter, [], 0⟩] scope pos) 0 (.ref I) (.ref D) (compEnvC scope cl C env)) (compPost c.M c.A E none (fun a s' => ∃ m' σ', Pst c σ s m' σ' s' ∧ Q (er a) m' σ') (.ref D) C) s₃ := by
    rintro s₃ rfl
    refine codeAny_compLoop_list (CompI c σ₁ s₁ m₁ sr I D C (Inv (er val))) ?_ (sr.items.length + 1)
      ⟨0, [], σ₁, p.st.keeps (tk := _) (fun b o e => old b o (hk b o e)), hI0, hat.keeps old, #[], 0, hacc, rfl, _, hns₁, holeI.2.2, holeD.2.2, holeC.2.2, Nat.le_refl _, Nat.zero_le _, rfl⟩
    rintro k s' ⟨i, ys, σ', P, hInv, hat', items, n, hit, hys, mC, hnC, hσI, hσD, hσC, hyl, hi, rfl⟩
    cases hu : sr.items[i]? with
    | none =>
      have hlen' : i = sr.items.length := Nat.le_antisymm hi (by simpa using hu)
      refine pyNext_end hh hat' hu fun h'' hx' => ?_
      refine ⟨mC, hnC.extBut hx' (Ne.symm hIlt.2), fun h3 hs3 => ?_⟩
      have P₁ := P.other (tk := s'.toks) hI holeI.1 hσI hx' holeI.2.1
      have P₂ := P₁.other (tk := s'.toks) hC holeC.1 hσC hs3.extBut holeC.2.1
      have hD3 : IsL h3 D items n := hs3.extBut D _ hDC (hx' D _ (Ne.symm hIlt.1) hit)
      have P₃ : Pst c σ₁ s₁ m₁ (upd σ' D (.list ys)) { s' with heap := h3 } := P₂.adopt hD holeD.1 holeD.2.1 ⟨items, n, hD3, hys⟩
      exact ⟨m₁, _, p.trans P₃, hQ ys σ' D (by rw [hsrc', ← hlen']; exact hInv) hσD⟩
    | some u =>
      have hlt : i < sr.items.length := (List.getElem?_eq_some_iff.mp hu).1
      refine pyNext_item hat' hu fun uv h'' tk he hsb hat'' => ?_
      have P₁ := P.other (tk := tk) hI holeI.1 hσI hsb.extBut holeI.2.1
      have hnC₁ := hnC.extBut hsb.extBut (Ne.symm hIlt.2)
      have hit₁ : IsL h'' D items n := hsb.extBut D _ (Ne.symm hIlt.1) hit
      -- the inner frame's own state
      refine wpAny_assign_Name (wpAny_storeName_local (lookup_relabel_local hx) (show (⟨h'', _, _, _, _⟩ : Shared).heap.Ns C mC from hnC₁) (fun h₂ hn₂ hs₂ => ?_) (by simp [compEnvC, relabel, hkind]))
      have P₂ := P₁.other (tk := tk + 1) hC holeC.1 hσC (show Heap.SameBut C h'' h₂ from hs₂).extBut holeC.2.1
      have hit₂ : IsL h₂ D items n := (show Heap.SameBut C h'' h₂ from hs₂).extBut D _ hDC hit₁
      have hCL : c.L < C := by
        obtain ⟨_, ⟨o, _, _, h1, _⟩, _⟩ := p.st.ns
        have : c.L < D := by rw [← hDe]; exact Heap.lt_size (hk _ _ h1)
        rw [hCs]; exact Nat.lt_succ_of_lt this
      have S' : St (c.at C) (upd (fun _ => none) x u) σ' { s' with heap := h₂, toks := tk + 1 } := comp_in P₂ hn₂ he hσC hCL
      refine wpAny_mono (turn (er val) i ys σ' u C hInv (by rw [hsrc']; exact hu) (comp_env ho hkind) _ S') (fun y s₄ ⟨m₄, σ₄, p₄, q₄⟩ => ?_) fun _ _ e => e.elim
      obtain ⟨oI, hI2, ATS⟩ := comp_at hat''
      have hIo : h₂.get? I = some oI := (show Heap.SameBut C h'' h₂ from hs₂).extBut I oI hIlt.2 hI2
      obtain ⟨P₄, hσC4, KEEP⟩ := comp_back P₂ p₄ holeC.1 hC
      obtain ⟨hI4, hσI4⟩ := KEEP I oI hIlt.2 hσI hIo
      obtain ⟨hD4, hσD4⟩ := KEEP D _ hDC hσD hit₂
      have hD4 : IsL s₄.heap D items n := hD4
      -- the item is appended
      have hsz : items.size ≤ 1000 := by
        have e1 : items.size = ys.length := by simpa using congrArg List.length hys
        have : sr.items.length ≤ 1000 := by rw [← hsrc']; exact hlen
        omega
      refine append_call hD4 (by rw [sizeLine_eq]; omega) ?_
      have hsb5 : Heap.SameBut D s₄.heap (s₄.heap.update D (Obj.mapSeq fun xs => xs.push y)) := Heap.SameBut.update ..
      have P₅ := P₄.other (tk := s₄.toks) hD holeD.1 hσD4 hsb5.extBut holeD.2.1
      obtain ⟨mC4, ⟨oC, es, ep, hc1, hc2⟩, _⟩ := p₄.st.ns
      refine ⟨sr.items.length + 1 - (i + 1), by omega, i + 1, ys ++ [er y], σ₄, P₅, q₄, ?_, _, _, hD4.update _, by simp [hys], mC4, ⟨oC, es, ep, hsb5.extBut C oC (Ne.symm hDC) hc1, hc2⟩, hσI4, hσD4, hσC4, by simp; omega, hlt, rfl⟩
      have hok := ok _ _ _ _ q₄
      rw [hsrc'] at hok
      exact ATS _ _ _ P₅.st hok (hsb5.extBut I oI hIlt.1 hI4)
  exact codeAny_compStart_list (loop _ rfl) (pyIter_self (hat.keeps old) (loop _ rfl))
end
end Mine

namespace Mine
open PySem PySem.Calls PyProof.Rows PySem.SeqAt

def envK (name : Str) (scope : Scope) (L a : Addr) (cd : Value) : Env :=
  { scope := scope, locals := L, globals := mainGlobals, cells := cellsFrom (L + 1) scope.names [], qual := name ++ ".<locals>.", func := some a, code := cd, frame := some L, builtins := builtinsNs }

theorem mkSpecC {M : Mod} (hp : recsOf M.q = recsOf pw) (k : Nat) {d : DefRec} {n : Nat} {args : List V} {Pre : Vw → Prop} {R : V → Vw → Prop} (names : List Str) (m₀ : Vars) (σ₀ : Addr → Hp) (e : (recsOf pw)[k]? = some d)
    (hkind : ∀ vals, vals.map er = args → ((names.zip vals).all fun y => d.scope.names.lookup y.1 == some .local || d.scope.names.lookup y.1 == some .cell) = true)
    (hm : ∀ vals, vals.map er = args → ∀ x v, m₀ x = some v → ∃ val, bindL (fun y => d.scope.names.lookup y) (names.zip vals) (fun _ => none) x = some val ∧ er val = v)
    (hσ : ∀ (L : Addr) vals, vals.map er = args → ∀ a o, σ₀ L a = some o → ∃ y, (cellsFrom (L + 1) d.scope.names []).lookup y = some a ∧ o = .cell ((bindC (fun y => d.scope.names.lookup y) (names.zip vals) (fun _ => none) y).map er))
    (hbind : ∀ vals pm code doc, vals.map er = args → bindArgs (docDef d.name d.params d.body d.scope pm code doc) ⟨vals, []⟩ = pure (names.zip vals))
    (hco : d.scope.isCoroutine = false) (hgen : d.scope.isGenerator = false) (hk : d.scope.kind = .function) (mono : Mono Pre) (monoR : ∀ v, Mono (R v))
    (body : ∀ c L fa code, In M c (envK d.name d.scope L fa code) n → Pre (baseOf c) → ∀ Q, Leads (fun f m σ => ∃ v, f = .ret v ∧ R v (own σ)) Q → X c NoE (execs d.body (envK d.name d.scope L fa code)) m₀ (σ₀ L) Q) :
    Spec M (n + 1) d.name args Pre R where
  mono := mono
  monoR := monoR
  run := fun A s fa vals hroom T hmg hv hpre hg => by
    obtain ⟨f, o, pm, code, doc, h1, h2, h3, h4⟩ := M.fnAt hp T e
    obtain rfl := same_addr h1 hmg
    refine codeAny_call_cells (fd := docDef d.name d.params d.body d.scope pm code doc) (body := d.body) (binds := names.zip vals) hroom.depth h2 h3 T.nolimit h4 rfl (hbind vals pm code doc hv) rfl
      (PySem.W.kindsX (scope := d.scope) (hkind vals hv) (s.heap.objs.size + 1)) (fun s₁ x => ?_) hco hgen hk
    obtain ⟨h₁, tk, hs₁⟩ := x.toInCall.same
    have I : In M { prog := M.p, w := M.w, A := A.deeper (envK d.name d.scope s.heap.objs.size f code), g := s.heap, L := s.heap.objs.size, os := s.os } (envK d.name d.scope s.heap.objs.size f code) n :=
      ⟨⟨rfl, hk, rfl, rfl⟩, rfl, rfl, T, hroom.deeper _⟩
    have S₁ : St { prog := M.p, w := M.w, A := A.deeper (envK d.name d.scope s.heap.objs.size f code), g := s.heap, L := s.heap.objs.size, os := s.os } m₀ (σ₀ s.heap.objs.size) s₁ := by
      refine ⟨⟨_, x.toInCall.ns, fun y v e => hm vals hv y v e⟩, x.toInCall.keep, fun a o e => ?_, Nat.le_refl _, by rw [hs₁]; exact hg, by rw [hs₁]⟩
      obtain ⟨y, hy, rfl⟩ := hσ _ vals hv a o e
      have hlt : s.heap.objs.size < a := x.above y a (mem_of_lookup hy)
      obtain ⟨oc, k1, k2⟩ := x.cell y a hy
      refine ⟨⟨oc, _, k1, k2, rfl⟩, Nat.ne_of_gt hlt, ?_⟩
      show s.heap.get? a = none
      cases q : s.heap.get? a with
      | none => rfl
      | some oo => exact absurd (Heap.lt_size q) (Nat.not_lt_of_gt hlt)
    refine wpAny_mono (body _ _ _ _ I hpre _ Leads.refl s₁ S₁) (fun fl s' ⟨m', σ', p, v, hv', hr⟩ => ?_) fun _ _ e => e.elim
    cases fl with
    | ret rv =>
      have hv'' : er rv = v := by simpa [erF] using hv'
      exact ⟨rv, σ', rfl, p.st.keep, p.st.gens, p.st.os, fun a o e => ⟨(p.st.own a o e).1, (p.st.own a o e).2.2⟩, hv'' ▸ hr⟩
    | next => cases hv'
    | brk => cases hv'
    | cont => cases hv'
end Mine

namespace Mine
open PySem PySem.Calls PyProof.Rows PySem.SeqAt

section
variable {c : Cx} {E : Value → Shared → Prop} {m : Vars} {σ : Hp} {env : Env} {x y : Str} {pos : Pos} {v : V} {Q : V → Vars → Hp → Prop} {QF : Fl → Vars → Hp → Prop}

theorem X.mono {t : Sem Flow} {Q₁ Q₂ : Fl → Vars → Hp → Prop} (h : X c E t m σ Q₁) (hq : ∀ f m' σ', Q₁ f m' σ' → Q₂ f m' σ') : X c E t m σ Q₂ := W.mono h fun f m' σ' => hq (erF f) m' σ'

theorem X.monoL {t : Sem Flow} {Q₁ Q₂ : Fl → Vars → Hp → Prop} (h : ∀ Q, Leads Q₁ Q → X c E t m σ Q) (hq : ∀ f m' σ', Q₁ f m' σ' → Q₂ f m' σ') : X c E t m σ Q₂ := (h _ Leads.refl).mono hq

inductive PairI (c : Cx) (σ : Hp) (v : V) (K : V → V → Prop) : Prop
  | mk (t : Addr) (u w : V) (e : v = .ref t) (h : Sees c σ t (.tuple [u, w])) (q : K u w)
theorem assign_pair {px py tp : Pos} {k : Nat} {value : Expr} (ho : EnvOk c env) (hh : c.A.handled = none) (hx : env.kindOf x = some .local) (hy : env.kindOf y = some .local)
    (h : Ev c E (eval value env) m σ fun v m₁ σ₁ => PairI c σ₁ v fun u w => QF .next (upd (upd m₁ x u) y w) σ₁)
    (hs : swapsWithSole [.Tuple [.Name x px, .Name y py] k tp] value pos.line env = pure false := by rfl) (hw : swappedStores [.Tuple [.Name x px, .Name y py] k tp] value env = pure none := by rfl) :
    X c E (exec (.Assign [.Tuple [.Name x px, .Name y py] k tp] value pos) env) m σ QF := fun s S => by
  refine Assign_Tuple (W.step h S fun val s₁ m₁ σ₁ p q => ?_) hs hw
  obtain ⟨t, u, w, e1, hs1, q⟩ := q
  obtain rfl := er_ref e1
  obtain ⟨items, n, h1, h2⟩ := hs1.at p.st
  obtain ⟨items⟩ := items
  obtain ⟨a, b, rfl⟩ := two_val (show items.map er = [u, w] from h2)
  · skip
    have ha : er a = u := by simpa using (List.cons.inj h2).1
    have hb : er b = w := by simpa using (List.cons.inj (List.cons.inj h2).2).1
    refine assign_Tuple_tuple hh ⟨_, h1, rfl, n, rfl⟩ (by rfl) (by rfl) fun h' he => ?_
    have p₂ := p.st.keeps (tk := s₁.toks) (fun b o e => he b o (Nat.ne_of_lt (Heap.lt_size e)) e)
    show wpAny c.M c.A (do holding [b] (assign (.Name x px) env a); holding [] (assign (.Name y py) env b); pure ()) _ E _
    refine wpAny_bind (wpAny_holding (W.step (asg_local (QU := fun _ m' σ' => m' = upd m₁ x u ∧ σ' = σ₁) ho hx ha ⟨rfl, rfl⟩) p₂.st fun _ s₃ m₃ σ₃ p₃ q₃ => ?_))
    obtain ⟨rfl, rfl⟩ := q₃
    refine wpAny_bind (wpAny_holding (W.step (asg_local (QU := fun _ m' σ' => m' = upd (upd m₁ x u) y w ∧ σ' = σ₃) ho hy hb ⟨rfl, rfl⟩) p₃.st fun _ s₄ m₄ σ₄ p₄ q₄ => ?_))
    obtain ⟨rfl, rfl⟩ := q₄
    exact wpAny_pure ⟨_, _, ((p.trans p₂).trans p₃).trans p₄, q⟩
end
end Mine

namespace Mine
open PySem PySem.Calls PyProof.Rows PySem.SeqAt

section
variable {c : Cx} {E : Value → Shared → Prop} {m : Vars} {σ : Hp} {env : Env} {x : Str} {pos : Pos} {v : V} {Q : V → Vars → Hp → Prop} {QU : Unit → Vars → Hp → Prop} {QF : Fl → Vars → Hp → Prop}

/-- a while whose body may raise -/
theorem whileE {test : Expr} {body : List Stmt} (hE : PassesOwn c.M c.A env E) (Inv : Nat → Vars → Hp → Prop) (n : Nat) (h0 : Inv n m σ)
    (turn : ∀ n m σ, Inv n m σ → ∀ Q, Leads (Turn (fun m₂ σ₂ => ∃ k, k < n ∧ Inv k m₂ σ₂) QF) Q → W c E (isTrue test env (eval test env)) m σ fun b m₁ σ₁ => (b = true → X c E (execs body env) m₁ σ₁ Q) ∧ (b = false → QF .next m₁ σ₁)) :
    X c E (exec (.While test body [] pos) env) m σ QF := fun s S => by
  refine wpAny_While (codeAny_whileLoop (fun k s' => ∃ m' σ', Pst c σ s m' σ' s' ∧ Inv k m' σ') ?_ n ⟨m, σ, .refl S, h0⟩)
  rintro k s' ⟨m', σ', P, hI⟩
  refine wpAny_mono (turn k m' σ' hI _ Leads.refl s' P.st) (fun b s₁ ⟨m₁, σ₁, p, q⟩ => ?_) fun e s' h => hE e s' h
  cases b with
  | true =>
    refine wpAny_mono (q.1 rfl s₁ p.st) (fun f s₂ ⟨m₂, σ₂, p₂, q₂⟩ => ?_) fun e s' h => hE e s' h
    have P₂ := (P.trans p).trans p₂
    cases f with
    | next => obtain ⟨j, hj, q⟩ := q₂; exact ⟨j, hj, m₂, σ₂, P₂, q⟩
    | cont => obtain ⟨j, hj, q⟩ := q₂; exact ⟨j, hj, m₂, σ₂, P₂, q⟩
    | brk => exact ⟨m₂, σ₂, P₂, q₂⟩
    | ret rv => exact ⟨m₂, σ₂, P₂, q₂⟩
  | false => exact wpAny_execs_nil ⟨m₁, σ₁, P.trans p, q.2 rfl⟩

/-! ends of a list -/
theorem sub_last {value slice : Expr} {xs : List V} {l : Addr} (hl : Sees c σ l (.list (xs ++ [v]))) (h : Q v m σ)
    (hs : ∀ t, subscripted slice false (.ref l) (.int (-1) t) = operate [.ref l, .int (-1) t] (getItem (.ref l) (.int (-1) t)) := by intro _; with_unfolding_all rfl) : Op2 c E (subscriptTail value slice) (.ref l) (.int (-1)) m σ Q := fun a b ha hb s S => by
  obtain ⟨t, rfl⟩ := er_int hb; obtain rfl := er_ref ha
  obtain ⟨items, n, h1, h2⟩ := hl.at S
  have hlen : items.size = xs.length + 1 := by have := congrArg List.length h2; simpa using this
  have hv : (xs ++ [v])[xs.length]? = some v := by simp
  obtain ⟨val, h3, h4⟩ := item_at h2 hv
  have hidx : ((-1 : Int) + items.size).toNat = xs.length := by omega
  exact tail_any h1.isList.typeIs slot_list_getitem.lookup (wpAny_getItem_list_neg h1.isList (by decide) (by omega) (by decide) (by rw [hidx, ← Array.getElem?_toList]; exact h3) (done (.refl S) (h4 ▸ h))) (hs t)

theorem del_last {xs : List V} {l : Addr} {a b : Value} (ha : er a = .ref l) (hb : er b = .int (-1)) (hl : σ l = some (.list (xs ++ [v]))) (hz : xs.length ≤ 1000) (h : QU () m (upd σ l (.list xs))) : W c E (delItem a b) m σ QU := fun s S => by
  obtain ⟨t, rfl⟩ := er_int hb; obtain rfl := er_ref ha
  obtain ⟨items, n, h1, h2⟩ := (S.own l _ hl).1
  have hlen : items.size = xs.length + 1 := by have := congrArg List.length h2; simpa using this
  refine P.delItem_list (k := xs.length) h1 (by decide) ?_ ⟨_, _, S.change (tk := s.toks) (o' := .list xs) (Heap.SameBut.update ..) hl ⟨_, _, h1.update _, ?_⟩, h⟩ (by rw [sizeLine_eq]; omega)
  · have := seqIndex_neg (k := -1) (n := items.size) (by decide) (by omega)
    rw [this]
    congr 1; omega
  · have e : items.eraseIdxIfInBounds xs.length = items.pop := by
      unfold Array.eraseIdxIfInBounds
      rw [dif_pos (by omega)]
      apply Array.ext'
      rw [Array.toList_eraseIdx, Array.toList_pop]
      have : items.toList.length = xs.length + 1 := by simpa using hlen
      rw [List.dropLast_eq_take, this, List.eraseIdx_eq_take_drop_succ, List.drop_of_length_le (by omega)]
      simp
    rw [e, Array.toList_pop, List.map_dropLast, h2]
    simp
theorem delete_ {o i : Expr} {p' : Pos} (h : Ev c E (eval o env) m σ fun ov m₁ σ₁ => Ev c E (eval i env) m₁ σ₁ fun iv m₂ σ₂ => ∀ oval ival, er oval = ov → er ival = iv → W c E (delItem oval ival) m₂ σ₂ fun _ => QF .next) :
    X c E (exec (.Delete [.Subscript o i p'] pos) env) m σ QF := fun s S =>
  wpAny_Delete (wpAny_deleteEach_cons (wpAny_delete_Subscript (W.step h S fun a s₁ _ _ p q => W.step q p.st fun b s₂ _ _ p₂ q₂ => W.step (q₂ a b rfl rfl) p₂.st fun _ _ m₃ σ₃ p₃ q₃ => wpAny_deleteEach_nil ⟨m₃, σ₃, (p.trans p₂).trans p₃, q₃⟩)))

theorem slice_rev {value st : Expr} {p : Pos} (h : Ev c E (eval value env) m σ fun ov m₁ σ₁ => Ev c E (eval st env) m₁ σ₁ fun iv m₂ σ₂ => ∃ l xs, ov = .ref l ∧ iv = .int (-1) ∧ Sees c σ₂ l (.list xs) ∧ xs.length ≤ 1000 ∧
      ∀ r, σ₂ r = none → Q (.ref r) m₂ (upd σ₂ r (.list xs.reverse))) :
    Ev c E (eval (.Subscript value (.Slice none none (some st) p) pos) env) m σ Q := fun s S => by
  refine Subscript_ (W.step h S fun ov s₁ m₁ σ₁ p q => wpAny_Slice ?_)
  rw [evalPart_none]
  refine wpAny_pure (wpAny_pure (W.step q p.st fun iv s₂ m₂ σ₂ p₂ q₂ => ?_))
  obtain ⟨l, xs, e1, e2, hs, hz, q₂⟩ := q₂
  obtain rfl := er_ref e1
  obtain ⟨t, rfl⟩ := er_int e2
  have p₃ := p₂.st.pushed (tk := s₂.toks) (x := { cls := .type "slice", data := .fields #[.none, .none, .int (-1) t] })
  obtain ⟨items, n, h1, h2⟩ := hs.at p₃.st
  have e3 := congrArg List.length h2
  simp at e3
  obtain ⟨p₄, hn⟩ := p₃.st.push (tk := s₂.toks) (x := { cls := .type "list", data := .seq (slicePick items none none (some (-1))) }) (o := .list xs.reverse) ⟨_, _, IsL.new _ _, by rw [PySem.W.krv_pick]; simp [h2]⟩
  exact tail_any h1.isList.typeIs slot_list_getitem.lookup (wpAny_getItem_list_slice h1.isList (Heap.IsSliceOf.new ..) .none .none (.int _ _) (by simp) (done ((p.trans p₂).trans (p₃.trans p₄)) (q₂ _ hn)) (by rw [sizeLine_eq]; omega)) (by with_unfolding_all rfl)

theorem op_mul {i j : Int} (hm : IntMulOk i j) (h : Q (.int (i * j)) m σ) : Op2 c E (binaryOp .Mult) (.int i) (.int j) m σ Q := fun a b ha hb s S => by
  obtain ⟨t, rfl⟩ := er_int ha; obtain ⟨u, rfl⟩ := er_int hb
  exact PyProof.Rows.mul_int (done (S.toks _) h) hm

/-! text -/
theorem fmt_str {value : Expr} (h : Ev c E (eval value env) m σ fun v m₁ σ₁ => ∃ y, v = .str y ∧ y.length ≤ 1000 ∧ Q (.str y) m₁ σ₁) : Ev c E (eval (.FormattedValue value (-1) none pos) env) m σ Q := fun s S =>
  FormattedValue_plain (W.step h S fun val s₁ m₁ σ₁ p ⟨y, e, hy, q⟩ => by
    obtain ⟨t, rfl⟩ := er_str e
    exact formatField_str (fun t' tk => done (val := .str y t') (p.trans (p.st.toks tk)) q) (by rw [sizeLine_eq]; omega))
theorem fmt_int {value : Expr} (h : Ev c E (eval value env) m σ fun v m₁ σ₁ => ∃ i : Int, v = .int i ∧ i.natAbs.log2 < 1920 ∧ Q (.str (toString i)) m₁ σ₁) : Ev c E (eval (.FormattedValue value (-1) none pos) env) m σ Q := fun s S =>
  FormattedValue_plain (W.step h S fun val s₁ m₁ σ₁ p ⟨i, e, hy, q⟩ => by
    obtain ⟨t, rfl⟩ := er_int e
    exact formatField_int_small hy (done (val := .str (toString i) _) (p.trans (p.st.toks _)) q))
theorem joinp : ∀ (parts : List (Sem Value)) (out : Str), (∀ t, t ∈ parts → Ev c E t m σ fun v m₁ σ₁ => ∃ y, v = .str y ∧ y.length ≤ 1000 ∧ m₁ = m ∧ σ₁ = σ) → out.length + 1000 * parts.length ≤ 100000 → (∀ y, Q (.str y) m σ) →
    Ev c E (joinParts out parts) m σ Q
  | [], out, _, hz, hQ => fun s S => joinParts_nil (done (val := .str out s.toks) (S.toks _) (hQ out)) (by rw [sizeLine_eq]; omega)
  | t :: parts, out, h, hz, hQ => fun s S => joinParts_cons (W.step (h t List.mem_cons_self) S fun val s₁ m₁ σ₁ p ⟨y, e, hy, e1, e2⟩ => by
      obtain ⟨u, rfl⟩ := er_str e
      rw [e1, e2] at p
      simp only [List.length_cons] at hz
      have hl : (out ++ y).length ≤ 100000 - 1000 * parts.length := by rw [strLen_append]; omega
      refine ⟨by rw [sizeLine_eq]; omega, ?_⟩
      exact W.step (joinp parts (out ++ y) (fun t ht => h t (List.mem_cons_of_mem _ ht)) (by omega) hQ) p.st fun val s₂ m₂ σ₂ p₂ q₂ => done (p.trans p₂) q₂)
theorem joined {v₁ v₂ : Expr} {rest : List Expr} (h : ∀ t, t ∈ eval v₁ env :: eval v₂ env :: evalEach rest env → Ev c E t m σ fun v m₁ σ₁ => ∃ y, v = .str y ∧ y.length ≤ 1000 ∧ m₁ = m ∧ σ₁ = σ)
    (hz : (evalEach rest env).length ≤ 50) (hQ : ∀ y, Q (.str y) m σ) : Ev c E (eval (.JoinedStr (v₁ :: v₂ :: rest) pos) env) m σ Q := fun s S =>
  JoinedStr_many (joinp _ Str.empty h (by simp only [List.length_cons]; have : Str.empty.length = 0 := rfl; omega) hQ s S)
end

/-- where an exception made here goes -/
def Goes (M : Mod) (c : Cx) (x : Str) (Ex : Prop) (E : Value → Shared → Prop) : Prop :=
  ∀ C, M.mg x = some (.ref C) → Ex → ∀ m σ s vs h' e, St c m σ s → Heap.MadeExcOf s.heap h' e (.ref C) vs → E (.ref e) { s with heap := h' }

theorem raise_ {M : Mod} {c : Cx} {E : Value → Shared → Prop} {m : Vars} {σ : Hp} {QF : Fl → Vars → Hp → Prop} {x name : Str} {scope : Scope} {fa : Addr} {cd : Value} {B newId initId : String} {bm : List Value} {e₀ : Expr} {rest : List Expr} {np cpos pos : Pos} {Ex : Prop}
    (T : M.Top c.g) (FB : ExcBaseFacts B newId initId bm) (hs : specOf M.q x = some (newId, bm)) (hh : c.A.handled = none) (G : Goes M c x Ex E) (hx : Ex)
    (h : Evs c E (spliced (backTo cpos (starEach (e₀ :: rest) (envOf name scope c.L fa cd)))) m σ fun vs m₁ σ₁ => vs.length ≤ 1000)
    (he : starEach (e₀ :: rest) (envOf name scope c.L fa cd) = (false, eval e₀ (envOf name scope c.L fa cd)) :: starEach rest (envOf name scope c.L fa cd) := by rfl)
    (hplain : (backTo cpos (starEach rest (envOf name scope c.L fa cd))).any (·.1) = false := by rfl)
    (hk : scope.kind = .function := by rfl) (hg : (envOf name scope c.L fa cd).kindOf x = some .globalImplicit := by rfl) (hd : (x == ("__debug__" : Str)) = false := by decide) :
    X c E (exec (.Raise (some (.Call (.Name x np) (e₀ :: rest) [] cpos)) none pos) (envOf name scope c.L fa cd)) m σ QF := fun s S => by
  obtain ⟨m', F, _⟩ := S.Fr
  refine Raise_top F T FB hs hh (fun C hm hb => W.step h S fun vs s₂ m₂ σ₂ p q => ⟨?_, p.st.keep, fun h' e hx' => G C hb hx m₂ σ₂ s₂ vs h' e p.st hx'⟩) he hplain hk hg hd
  have q : (vs.map er).length ≤ 1000 := q
  rw [List.length_map] at q
  rw [sizeLine_eq]; omega

/-- what a def of the module does that may raise its own exception x -/
structure SpecX (M : Mod) (n : Nat) (f x : Str) (args : List V) (Pre : Vw → Prop) (R : V → Vw → Prop) (Ex : Prop) : Prop where
  mono : Mono Pre
  run : ∀ (A : Around) (s : Shared) (fa : Addr) (vals : List Value) (base : Heap) (outer : List Env), Room n A → M.Top s.heap → M.mg f = some (.ref fa) → vals.map er = args → Pre (fun a o => o.At M.p M.w s.heap a) → s.gens = #[] → Below A base outer s.heap →
    codeAny (model M.p M.w) A (.call (.ref fa) ⟨vals, []⟩) (fun r s' => s'.gens = #[] ∧ s'.os = s.os ∧ ((∃ v σ', r = .ok (.ret v) ∧ (∀ b o, s.heap.get? b = some o → s'.heap.get? b = some o) ∧
      (∀ a o, σ' a = some o → o.At M.p M.w s'.heap a ∧ s.heap.get? a = none) ∧ R (er v) (own σ')) ∨
      (∃ e t C, r = .error (.ref e) ∧ Ex ∧ M.mg x = some (.ref C) ∧ Heap.FlyingW base outer e (.ref C) (.ref t) s'.heap ∧ s.heap.UpToSlots s'.heap))) s

theorem mkSpecX {M : Mod} (hp : recsOf M.q = recsOf pw) (k : Nat) {d : DefRec} {n : Nat} {x : Str} {args : List V} {Pre : Vw → Prop} {R : V → Vw → Prop} {Ex : Prop} (names : List Str) (e : (recsOf pw)[k]? = some d)
    (hnd : names.Nodup) (hloc : (names.all fun x => decide (d.scope.names.lookup x = some .local)) = true) (hcell : (d.scope.names.all fun x => x.2 != .cell) = true)
    (hbind : ∀ vals pm code doc, vals.map er = args → bindArgs (docDef d.name d.params d.body d.scope pm code doc) ⟨vals, []⟩ = pure (names.zip vals))
    (hco : d.scope.isCoroutine = false) (hgen : d.scope.isGenerator = false) (hk : d.scope.kind = .function) (mono : Mono Pre)
    (body : ∀ c fa code E, In M c (envOf d.name d.scope c.L fa code) n → Pre (baseOf c) → PassesOwn c.M c.A (envOf d.name d.scope c.L fa code) E → Goes M c x Ex E → ∀ Q, Leads (fun f m σ => ∃ v, f = .ret v ∧ R v (own σ)) Q →
      X c E (execs d.body (envOf d.name d.scope c.L fa code)) (vars0 names args) (fun _ => none) Q) :
    SpecX M (n + 1) d.name x args Pre R Ex where
  mono := mono
  run := fun A s fa vals base outer hroom T hmg hv hpre hg K => by
    obtain ⟨f, o, pm, code, doc, h1, h2, h3, h4⟩ := M.fnAt hp T e
    obtain rfl := same_addr h1 hmg
    have hmem : ∀ x ∈ names.zip vals, x.1 ∈ names := fun x hx => (List.of_mem_zip hx).1
    refine call_plain hroom.depth h2 h3 T.nolimit h4 (hbind vals pm code doc hv) (fun x hx => of_decide_eq_true (List.all_eq_true.mp hloc x.1 (hmem x hx))) (fun h₁ F => ?_) hco hgen hk (fun x hx => by simpa using List.all_eq_true.mp hcell x hx)
    have I : In M { prog := M.p, w := M.w, A := A.deeper (envOf d.name d.scope s.heap.objs.size f code), g := s.heap, L := s.heap.objs.size, os := s.os } (envOf d.name d.scope s.heap.objs.size f code) n :=
      ⟨⟨rfl, hk, rfl, rfl⟩, rfl, rfl, T, hroom.deeper _⟩
    refine wpAny_mono (body _ _ _ (fun e s' => wpAny (model M.p M.w) (A.deeper (envOf d.name d.scope s.heap.objs.size f code)) (leaving (envOf d.name d.scope s.heap.objs.size f code) e)
      (fun _ s'' => _) _ s') I hpre PassesOwn.leaving ?_ _ Leads.refl { s with heap := h₁, toks := s.toks + (names.zip vals).length } ⟨⟨_, F.ns, fun y v e => vars0_le names vals args hnd hv y v e⟩, F.keep, fun _ _ e => (nomatch e), Nat.le_refl _, hg, rfl⟩) (fun fl s' ⟨m', σ', p, v, hv', hr⟩ => ?_) fun _ _ e => e
    · intro C hC hEx m' σ' s₁ vs h' e₁ S hx
      obtain ⟨m'', F', _⟩ := S.Fr
      exact leave_madeW K hx F' (fun h'' t k1 k2 k3 k4 => ⟨S.gens, S.os, .inr ⟨e₁, t, C, rfl, hEx, hC, k1, k4⟩⟩) hk
    cases fl with
    | ret rv =>
      have hv'' : er rv = v := by simpa [erF] using hv'
      exact ⟨p.st.gens, p.st.os, .inl ⟨rv, σ', rfl, p.st.keep, fun a o e => ⟨(p.st.own a o e).1, (p.st.own a o e).2.2⟩, hv'' ▸ hr⟩⟩
    | next => cases hv'
    | brk => cases hv'
    | cont => cases hv'
end Mine

namespace Mine
open PySem PySem.Calls PyProof.Rows PySem.SeqAt

section
variable {M : Mod} {c : Cx} {E : Value → Shared → Prop} {m : Vars} {σ : Hp} {env : Env} {x : Str} {pos : Pos} {v : V} {Q : V → Vars → Hp → Prop} {QF : Fl → Vars → Hp → Prop}

/-- a call of a def of the module, its run still to be said -/
theorem call_raw {f : Str} {np : Pos} {e : Expr} {rest : List Expr} {k : Nat} {s : Shared} {Qr : Value → Shared → Prop} (I : In M c env k) (hk : env.kindOf f = some .globalImplicit) (hF : Fn M f) (St₀ : St c m σ s)
    (h : Evs c E (spliced (backTo pos (starEach (e :: rest) env))) m σ fun vs m₁ σ₁ => ∀ vals s₁ fa, vals.map er = vs → Pst c σ s m₁ σ₁ s₁ → M.mg f = some (.ref fa) → codeAny c.M c.A (.call (.ref fa) ⟨vals, []⟩) (fun r s' => match r with | .ok (.ret v) => Qr v s' | .ok _ => False | .error e => E e s') s₁)
    (he' : eval (.Call (.Name f np) (e :: rest) [] pos) env = (do callWith pos (← eval (.Name f np) env) [] (backTo pos (starEach (e :: rest) env)) (backToKw pos (keywordEach [] env))) := by rfl)
    (he : starEach (e :: rest) env = (false, eval e env) :: starEach rest env := by rfl) (hd : (f == ("__debug__" : Str)) = false := by decide) : wpAny c.M c.A (eval (.Call (.Name f np) (e :: rest) [] pos) env) Qr E s := by
  obtain ⟨fa, o, fd, hmg, ho, hdat⟩ := hF c.g I.top
  refine Call_ ?_ he'
  refine Name_function_global I.env.kind hk (loadGlobal_global (I.env.glob ▸ I.top.g.keeps St₀.keep) hmg ?_) hd
  exact callWith_def hdat (W.step h St₀ fun vs s₁ m₁ σ₁ p q => ⟨p.st.keep _ _ ho, wpAny_call (q vs s₁ fa rfl p hmg)⟩) he
end

/-- what a def of the module does that catches what it raises -/
structure SpecB (M : Mod) (n : Nat) (f : Str) (args : List V) (Pre : Vw → Prop) (R : V → Prop) : Prop where
  mono : Mono Pre
  run : ∀ (A : Around) (s : Shared) (fa : Addr) (vals : List Value) (base : Heap) (outer : List Env), Room n A → M.Top base → M.mg f = some (.ref fa) → vals.map er = args → Pre (fun a o => o.At M.p M.w base a) → s.gens = #[] → Below A base outer s.heap → base.objs.size ≤ s.heap.objs.size →
    codeAny (model M.p M.w) A (.call (.ref fa) ⟨vals, []⟩) (fun r s' => ∃ v, r = .ok (.ret v) ∧ base.StaysIn s'.heap ∧ s.heap.UpToSlots s'.heap ∧ s'.gens = #[] ∧ s'.os = s.os ∧ R (er v)) s

theorem hidden {A : Around} {base h g : Heap} {outer : List Env} {L a : Addr} {cd : Value} {name : Str} {scope : Scope} {m : Str → Option Value} (K : Below A base outer g) (F : Fr g L h m) (hk : scope.kind = .function) :
    ∃ B : Heap, base.StaysIn B ∧ Below (A.deeper (envOf name scope L a cd)) B (envOf name scope L a cd :: outer) h ∧ B.objs.size = h.objs.size ∧ (outer = [] → ∀ b o, h.get? b = some o → b ≠ L → B.get? b = some o) := by
  have K' := K.push (name := name) (a := a) (cd := cd) F hk
  have hin : ∀ env ∈ (envOf name scope L a cd :: outer), ∀ b, env.frame = some b → b ∈ (envOf name scope L a cd :: outer).filterMap (·.frame) := fun env he b hb => List.mem_filterMap.mpr ⟨env, he, hb⟩
  refine ⟨PySem.W.hideAll h ((envOf name scope L a cd :: outer).filterMap (·.frame)), fun b o q => PySem.W.hideAll_get _ (K'.stays b o q) fun hm => ?_, ⟨K'.stack, fun b o q => PySem.W.of_hideAll _ q, PySem.W.funFrames_hide K'.frames hin⟩, PySem.W.hideAll_size _ _, fun ho b o q hb => ?_⟩
  · rw [(K'.frames.mem hm).1] at q; cases q
  · subst ho
    refine PySem.W.hideAll_get _ q fun hm => hb ?_
    have : b ∈ [L] := hm
    exact List.mem_singleton.mp this

inductive CallB (M : Mod) (c : Cx) (f : Str) (k : Nat) (vs : List V) (σ : Hp) (K : V → Prop) : Prop
  | mk (n : Nat) (Pre : Vw → Prop) (R : V → Prop) (S : SpecB M n f vs Pre R) (hn : n ≤ k) (hpre : Pre (Sees c σ)) (q : ∀ v, R v → K v)
/-- a call of a def that catches what it raises, from the outermost frame -/
theorem call_defB {M : Mod} {c : Cx} {E : Value → Shared → Prop} {m : Vars} {σ : Hp} {pos : Pos} {Q : V → Vars → Hp → Prop} {A : Around} {name : Str} {scope : Scope} {fa₀ : Addr} {cd : Value} {f : Str} {np : Pos} {e : Expr} {rest : List Expr} {k : Nat}
    (I : In M c (envOf name scope c.L fa₀ cd) k) (hA : c.A = A.deeper (envOf name scope c.L fa₀ cd)) (K : Below A c.g [] c.g) (hks : scope.kind = .function) (hk : (envOf name scope c.L fa₀ cd).kindOf f = some .globalImplicit) (hF : Fn M f)
    (h : Evs c E (spliced (backTo pos (starEach (e :: rest) (envOf name scope c.L fa₀ cd)))) m σ fun vs m₁ σ₁ => CallB M c f k vs σ₁ fun v => Q v m₁ σ₁)
    (he' : eval (.Call (.Name f np) (e :: rest) [] pos) (envOf name scope c.L fa₀ cd) = (do callWith pos (← eval (.Name f np) (envOf name scope c.L fa₀ cd)) [] (backTo pos (starEach (e :: rest) (envOf name scope c.L fa₀ cd))) (backToKw pos (keywordEach [] (envOf name scope c.L fa₀ cd)))) := by rfl)
    (he : starEach (e :: rest) (envOf name scope c.L fa₀ cd) = (false, eval e (envOf name scope c.L fa₀ cd)) :: starEach rest (envOf name scope c.L fa₀ cd) := by rfl) (hd : (f == ("__debug__" : Str)) = false := by decide) :
    Ev c E (eval (.Call (.Name f np) (e :: rest) [] pos) (envOf name scope c.L fa₀ cd)) m σ Q := fun s S => by
  refine call_raw I hk hF S (W.mono h fun vals m₁ σ₁ ⟨n, Pre, R, SB, hn, hpre, q⟩ vals' s₁ fa hv p hmg => ?_) he' he hd
  obtain ⟨m', F, _⟩ := p.st.Fr
  obtain ⟨B, hB, KB, hBz, hBo⟩ := hidden (name := name) (scope := scope) (a := fa₀) (cd := cd) K F hks
  have hBo := hBo rfl
  have hpre' : Pre (fun a o => o.At M.p M.w B a) := SB.mono _ _ (fun a o hs => by
    rw [← I.p, ← I.w]
    rcases hs with q | q
    · exact (p.st.own a o q).1.keeps fun x hx => hBo a x hx (p.st.own a o q).2.1
    · exact q.keeps fun x hx => hB a x hx) hpre
  have hrun := SB.run c.A s₁ fa vals' B _ (I.room.less hn) (I.top.keeps hB) hmg hv hpre' p.st.gens (by rw [hA]; exact KB) (by rw [hBz]; exact Nat.le_refl _)
  have hM : c.M = model M.p M.w := by unfold Cx.M; rw [I.p, I.w]
  refine codeAny_mono (by rw [hM]; exact hrun) fun r s' hr => ?_
  obtain ⟨v, rfl, k1, k2, k3, k4, k5⟩ := hr
  have hkeep : ∀ b o, b ≠ c.L → s₁.heap.get? b = some o → s'.heap.get? b = some o := fun b o hb e => k1 b o (hBo b o e hb)
  have p₂ : Pst c σ₁ s₁ m₁ σ₁ s' := by
    refine ⟨⟨?_, fun b o e => hkeep b o (Nat.ne_of_lt (Nat.lt_of_lt_of_le (Heap.lt_size e) p.st.above)) (p.st.keep b o e), fun a o e => ?_, p.st.above, k3, k4.trans p.st.os⟩, fun b o hb _ e => hkeep b o hb e, fun b o e h2 => by rw [e] at h2; cases h2⟩
    · obtain ⟨m₂, h1, h2⟩ := p.st.ns
      exact ⟨m₂, k2.ns h1, h2⟩
    · obtain ⟨q1, q2, q3⟩ := p.st.own a o e
      exact ⟨q1.keeps fun y hy => hkeep a y q2 hy, q2, q3⟩
  exact done (p.trans p₂) (q _ k5)

/-- try: f(..) except x: y = False, the frame not the outermost -/
theorem try_own {M : Mod} {c : Cx} {E : Value → Shared → Prop} {m : Vars} {σ : Hp} {s : Shared} {A : Around} {base : Heap} {outer : List Env} {name : Str} {scope : Scope} {fa₀ : Addr} {cd : Value} {f x y : Str} {np cpos epos xp yp bp ap hp pos : Pos} {e : Expr} {rest : List Expr} {k kb : Nat} {args : List V} {R : V → Vw → Prop} {Ex : Prop} {Pre : Vw → Prop}
    {B newId initId : String} {bm : List Value} (FB : ExcBaseFacts B newId initId bm) (hs : specOf M.q x = some (newId, bm))
    (I : In M c (envOf name scope c.L fa₀ cd) k) (hA : c.A = A.deeper (envOf name scope c.L fa₀ cd)) (K : Below A base outer c.g) (Tb : M.Top base) (hz : base.objs.size ≤ c.L) (hks : scope.kind = .function) (hk : (envOf name scope c.L fa₀ cd).kindOf f = some .globalImplicit) (hF : Fn M f)
    (hxk : (envOf name scope c.L fa₀ cd).kindOf x = some .globalImplicit) (hyk : (envOf name scope c.L fa₀ cd).kindOf y = some .local) (S : St c m σ s) (hE : ∀ e, PassesOwnAt c.M (c.A.mark (some (.ref e))) c.A (envOf name scope c.L fa₀ cd) E)
    {n : Nat} (SX : SpecX M n f x args Pre R Ex) (hn : n ≤ k)
    (h : Evs c NoE (spliced (backTo cpos (starEach (e :: rest) (envOf name scope c.L fa₀ cd)))) m σ fun vs m₁ σ₁ => m₁ = m ∧ vs = args ∧ Pre (Sees c σ₁))
    {Q : Flow → Shared → Prop}
    (q1 : ∀ v σ' s', R v (own σ') → St { c with g := base } m (fun _ => none) s' → c.g.UpToSlots s'.heap → Q .next s')
    (q2 : ∀ s', Ex → St { c with g := base } (upd m y (.bool false)) (fun _ => none) s' → c.g.UpToSlots s'.heap → Q .next s')
    (hi : interactive (envOf name scope c.L fa₀ cd) = false := by rfl) (hsw : swapsWith (.Call (.Name f np) (e :: rest) [] cpos) none epos.line (envOf name scope c.L fa₀ cd) = pure false := by rfl)
    (hsw2 : swapsWith (.Constant (.bool false) kb bp) (some (.Name y yp)) ap.line (envOf name scope c.L fa₀ cd) = pure false := by rfl)
    (he' : eval (.Call (.Name f np) (e :: rest) [] cpos) (envOf name scope c.L fa₀ cd) = (do callWith cpos (← eval (.Name f np) (envOf name scope c.L fa₀ cd)) [] (backTo cpos (starEach (e :: rest) (envOf name scope c.L fa₀ cd))) (backToKw cpos (keywordEach [] (envOf name scope c.L fa₀ cd)))) := by rfl)
    (he : starEach (e :: rest) (envOf name scope c.L fa₀ cd) = (false, eval e (envOf name scope c.L fa₀ cd)) :: starEach rest (envOf name scope c.L fa₀ cd) := by rfl) (hd : (f == ("__debug__" : Str)) = false := by decide) (hdx : (x == ("__debug__" : Str)) = false := by decide) :
    wpAny c.M c.A (exec (.Try [.Expr (.Call (.Name f np) (e :: rest) [] cpos) epos] [.ExceptHandler (some (.Name x xp)) none [.Assign [.Name y yp] (.Constant (.bool false) kb bp) ap] hp] [] [] pos) (envOf name scope c.L fa₀ cd)) Q E s := by
  refine wpAny_Try_except ?_
  refine wpAny_execs_cons (wpAny_Expr_any (call_raw I hk hF S (W.anyE (W.mono h fun vs m₁ σ₁ hh vals s₁ fa hv p hmg => ?_)) he' he hd) hi hsw)
  obtain ⟨rfl, hargs, hpre⟩ := hh
  obtain ⟨m', F, hm'⟩ := p.st.Fr
  obtain ⟨B', hB, KB, hBz, _⟩ := hidden (name := name) (scope := scope) (a := fa₀) (cd := cd) K F hks
  have hM : c.M = model M.p M.w := by unfold Cx.M; rw [I.p, I.w]
  have hpre' : Pre (fun a o => o.At M.p M.w s₁.heap a) := SX.mono _ _ (fun a o hs => by have := Sees.at hs p.st; rw [I.p, I.w] at this; exact this) hpre
  have hrun := SX.run c.A s₁ fa vals B' _ (I.room.less hn) (I.top.keeps p.st.keep) hmg (hv.trans hargs) hpre' p.st.gens (by rw [hA]; exact KB)
  have hcg : c.g.UpToSlots s₁.heap := Heap.UpToSlots.of_keeps p.st.keep
  have hbs : base.StaysIn s₁.heap := fun b o e => p.st.keep b o (K.stays b o e)
  have F₀ : PyProof.Rows.Fr base c.L s₁.heap m' := ⟨F.ns, hbs, hz⟩
  refine codeAny_mono (by rw [hM]; exact hrun) fun r s' hr0 => ?_
  obtain ⟨hg, hos, hr⟩ := hr0
  rcases hr with ⟨v, σ', rfl, k1, k2, k3⟩ | ⟨e₁, t, C, rfl, hEx, hC, hfl, hsm⟩
  · refine wpAny_execs_nil (wpAny_execs_nil (q1 _ _ _ k3 ?_ (hcg.trans (Heap.UpToSlots.of_keeps k1))))
    exact ⟨⟨m', F.ns.keeps k1, hm'⟩, fun b o e => k1 b o (hbs b o e), fun _ _ e => (nomatch e), hz, hg, hos.trans p.st.os⟩
  · dsimp only
    obtain ⟨C', O, _⟩ := PyProof.Rows.Top.ownAt Tb hs
    obtain rfl : C' = C := by
      have q := O.bound.symm.trans hC
      injection q with q
      injection q
    have hfr : c.A.frames = some (envOf name scope c.L fa₀ cd :: outer) := by rw [hA]; exact Around.frames_deeper K.stack
    refine wpAny_looks_onW hfr rfl hfl fun h₄ hheld₄ hsm₄ => ?_
    refine wpAny_landsW hheld₄ fun h₅ hheld hsm₅' => ?_
    have hsm₅ := hsm.trans (hsm₄.trans hsm₅')
    have hb₅ : base.StaysIn h₅ := fun b o e => hheld.1 b o (hB b o e)
    have F₅ := F₀.of_stays hb₅ hsm₅
    refine handleBy_own FB.hasBase (ld_own F₅ Tb.g O.own ⟨rfl, O.keeps hb₅, hheld.there, ?_⟩ hks hxk hdx)
    refine lands_againW hheld fun h₆ hfl₆ hsm₆ => ?_
    have hb₆ : base.StaysIn h₆ := fun b o e => hfl₆.1 b o (hB b o e)
    have F₆ := F₀.of_stays hb₆ (hsm₅.trans hsm₆)
    have S₆ : St { c with g := base, A := c.A.mark (some (.ref e₁)) } m₁ (fun _ => none) { s' with heap := h₆ } := ⟨⟨m', F₆.ns, hm'⟩, hb₆, fun _ _ e => (nomatch e), hz, hg, hos.trans p.st.os⟩
    refine wpAny_passesOwnAt (hE e₁) ?_
    have ho : EnvOk { c with g := base, A := c.A.mark (some (.ref e₁)) } (envOf name scope c.L fa₀ cd) := ⟨rfl, hks, rfl, rfl⟩
    have hX : X { c with g := base, A := c.A.mark (some (.ref e₁)) } E (execs [.Assign [.Name y yp] (.Constant (.bool false) kb bp) ap] (envOf name scope c.L fa₀ cd)) m₁ (fun _ => none) (fun fl m₂ σ₂ => fl = .next ∧ m₂ = upd m₁ y (.bool false) ∧ σ₂ = fun _ => none) :=
      execs_cons (assign_local ho hyk (const_bool (execs_nil ⟨rfl, rfl, rfl⟩)) hsw2)
    refine wpAny_mono (hX _ S₆) (fun fl s₇ ⟨m₂, σ₂, p₂, hfl', hm₂, hσ₂⟩ => ?_) fun _ _ e => e
    cases fl with
    | next =>
      subst hm₂
      refine q2 s₇ hEx ⟨p₂.st.ns, p₂.st.keep, fun _ _ e => (nomatch e), hz, p₂.st.gens, p₂.st.os⟩ fun b o e hn => ?_
      obtain ⟨sl, q⟩ := (hcg.trans (hsm₅.trans hsm₆)) b o e hn
      exact ⟨sl, p₂.frame b _ (fun q' => by rw [q'] at e; exact Nat.lt_irrefl _ (Nat.lt_of_lt_of_le (Heap.lt_size e) S.above)) rfl q⟩
    | brk => cases hfl'
    | cont => cases hfl'
    | ret v => cases hfl'
end Mine

namespace Mine
open PySem PySem.Calls PyProof.Rows PySem.SeqAt

section
variable {c : Cx} {E : Value → Shared → Prop} {m : Vars} {σ : Hp} {env : Env} {x : Str} {pos : Pos} {v : V} {Q : V → Vars → Hp → Prop} {QF : Fl → Vars → Hp → Prop}

theorem listcomp_if {elt iter cond : Expr} {px : Pos} {scope : Scope} {cl : List (Str × Addr)} (hh : c.A.handled = none) (ho : EnvOk c env) (src : V → Src) (Inv : V → Nat → List V → Hp → Prop)
    (h : Ev c E (eval iter env) m σ fun v m₁ σ₁ => (src v).Is c σ₁ v ∧ Inv v 0 [] σ₁ ∧ (src v).items.length ≤ 1000 ∧ ∀ ys σ₂ D, Inv v (src v).items.length ys σ₂ → σ₂ D = none → Q (.ref D) m₁ (upd σ₂ D (.list ys)))
    (ok : ∀ v i ys σ, Inv v i ys σ → (src v).Ok c σ)
    (turn : ∀ v i ys σ u C, Inv v i ys σ → (src v).items[i]? = some u → EnvOk (c.at C) (compEnvC scope cl C env) → W (c.at C) NoE (isTrue cond (compEnvC scope cl C env) (eval cond (compEnvC scope cl C env))) (upd (fun _ => none) x u) σ fun b m' σ' => (b = true → Ev (c.at C) NoE (eval elt (compEnvC scope cl C env)) m' σ' fun y _ σ'' => Inv v (i + 1) (ys ++ [y]) σ'') ∧ (b = false → Inv v (i + 1) ys σ'))
    (hclos : closureFor scope env = pure cl) (hcell : (scope.names.all fun y => y.2 != .cell) = true) (hkind : scope.kind = .function)
    (hnames : (scope.names.all fun y => y.2 != .local || scope.names.lookup y.1 == some .local) = true) (hx : scope.names.lookup x = some .local)
    (hs : ∀ x, foldedSetIterable iter env x = pure x := by intro _; rfl) : Ev c E (eval (.ListComp elt [⟨.Name x px, iter, [cond], 0⟩] scope pos) env) m σ Q := fun s S => by
  rw [eval_ListComp]
  have hnames' : ∀ y ∈ scope.names, y.2 = .local → scope.names.lookup y.1 = some .local := fun y hy e => by
    have := List.all_eq_true.mp hnames y hy
    simpa [e] using this
  have hcell' : ∀ y ∈ scope.names, y.2 ≠ .cell := fun y hy => by simpa using List.all_eq_true.mp hcell y hy
  refine wpAny_comprehension_free (use := none) rfl hs hclos hkind hnames' (W.step h S fun val s₁ m₁ σ₁ p q => pyIter_src p.st q.1 fun I h' hI hat hk => ?_)
  obtain ⟨hIs, hI0, hlen, hQ⟩ := q
  generalize hsrc : src (er val) = sr at hat
  have holeI := p.st.hole hI
  have p₁ := p.st.keeps (tk := s₁.toks) hk
  -- the growing list
  refine wpAny_newObj_type (wpAny_newFunctionEnv hcell' (by intro y hy; simp at hy) (fun h₁ hns₁ hsb₁ => ?_) hkind)
  dsimp only at hns₁ hsb₁ ⊢
  generalize hH2 : h'.push { cls := .type "list", dict := none, data := .seq ([] : List Value).toArray } = H2 at hns₁ hsb₁ ⊢
  generalize hDe : h'.objs.size = D
  generalize hCe : H2.objs.size = C at hns₁ hsb₁
  have hCs : C = D + 1 := by rw [← hCe, ← hH2, Heap.size_push, hDe]
  have fresh : ∀ a, D ≤ a → h'.get? a = none := fun a ha => by
    cases e : h'.get? a with
    | none => rfl
    | some o => exact absurd (Heap.lt_size e) (Nat.not_lt.mpr (by rw [hDe]; exact ha))
  have freshS : ∀ a, D ≤ a → s₁.heap.get? a = none := fun a ha => by
    cases e : s₁.heap.get? a with
    | none => rfl
    | some o => have := fresh a ha; rw [hk a o e] at this; cases this
  have hD := freshS D (Nat.le_refl _)
  have hC := freshS C (by rw [hCs]; exact Nat.le_succ _)
  have holeD := p.st.hole hD
  have holeC := p.st.hole hC
  have hDC : D ≠ C := by rw [hCs]; exact Nat.ne_of_lt (Nat.lt_succ_self _)
  have hIlt : I ≠ D ∧ I ≠ C := by
    have : ∃ o, h'.get? I = some o := by
      cases sr with
      | list a xs => obtain ⟨⟨o, h1, _⟩, _⟩ := hat; exact ⟨o, h1⟩
      | range n => exact ⟨_, hat⟩
    obtain ⟨o, ho'⟩ := this
    have hlt : I < D := by rw [← hDe]; exact Heap.lt_size ho'
    exact ⟨Nat.ne_of_lt hlt, Nat.ne_of_lt (by rw [hCs]; exact Nat.lt_succ_of_lt hlt)⟩
  have old : ∀ b o, h'.get? b = some o → h₁.get? b = some o := fun b o e => by
    have hlt : b < D := by rw [← hDe]; exact Heap.lt_size e
    exact hsb₁.extBut b o (Nat.ne_of_lt (by rw [hCs]; exact Nat.lt_succ_of_lt hlt)) (Heap.get?_push_of_some _ (hH2 ▸ Heap.get?_push_of_some _ e))
  have hacc : IsL h₁ D #[] 0 := hsb₁.extBut D _ hDC (Heap.get?_push_of_some _ (hH2 ▸ hDe ▸ Heap.get?_push_size _ rfl))
  have hsrc' : src (er val) = sr := hsrc
  -- the loop
  have loop : ∀ s₃ : Shared, s₃ = { s₁ with heap := h₁, toks := s₁.toks + ([] : List (Str × Value)).length } →
      codeAny c.M c.A (.compLoop (.ListComp elt [⟨.Name x px, iter, [cond], 0⟩] scope pos) 0 (.ref I) (.ref D) (compEnvC scope cl C env)) (compPost c.M c.A E none (fun a s' => ∃ m' σ', Pst c σ s m' σ' s' ∧ Q (er a) m' σ') (.ref D) C) s₃ := by
    rintro s₃ rfl
    refine codeAny_compLoop_tests (CompI c σ₁ s₁ m₁ sr I D C (Inv (er val))) ?_ (sr.items.length + 1)
      ⟨0, [], σ₁, p.st.keeps (tk := _) (fun b o e => old b o (hk b o e)), hI0, hat.keeps old, #[], 0, hacc, rfl, _, hns₁, holeI.2.2, holeD.2.2, holeC.2.2, Nat.le_refl _, Nat.zero_le _, rfl⟩
    rintro k s' ⟨i, ys, σ', P, hInv, hat', items, n, hit, hys, mC, hnC, hσI, hσD, hσC, hyl, hi, rfl⟩
    cases hu : sr.items[i]? with
    | none =>
      have hlen' : i = sr.items.length := Nat.le_antisymm hi (by simpa using hu)
      refine pyNext_end hh hat' hu fun h'' hx' => ?_
      refine ⟨mC, hnC.extBut hx' (Ne.symm hIlt.2), fun h3 hs3 => ?_⟩
      have P₁ := P.other (tk := s'.toks) hI holeI.1 hσI hx' holeI.2.1
      have P₂ := P₁.other (tk := s'.toks) hC holeC.1 hσC hs3.extBut holeC.2.1
      have hD3 : IsL h3 D items n := hs3.extBut D _ hDC (hx' D _ (Ne.symm hIlt.1) hit)
      have P₃ : Pst c σ₁ s₁ m₁ (upd σ' D (.list ys)) { s' with heap := h3 } := P₂.adopt hD holeD.1 holeD.2.1 ⟨items, n, hD3, hys⟩
      exact ⟨m₁, _, p.trans P₃, hQ ys σ' D (by rw [hsrc', ← hlen']; exact hInv) hσD⟩
    | some u =>
      have hlt : i < sr.items.length := (List.getElem?_eq_some_iff.mp hu).1
      refine pyNext_item hat' hu fun uv h'' tk he hsb hat'' => ?_
      have P₁ := P.other (tk := tk) hI holeI.1 hσI hsb.extBut holeI.2.1
      have hnC₁ := hnC.extBut hsb.extBut (Ne.symm hIlt.2)
      have hit₁ : IsL h'' D items n := hsb.extBut D _ (Ne.symm hIlt.1) hit
      -- the inner frame's own state
      refine wpAny_assign_Name (wpAny_storeName_local (lookup_relabel_local hx) (show (⟨h'', _, _, _, _⟩ : Shared).heap.Ns C mC from hnC₁) (fun h₂ hn₂ hs₂ => ?_) (by simp [compEnvC, relabel, hkind]))
      have P₂ := P₁.other (tk := tk + 1) hC holeC.1 hσC (show Heap.SameBut C h'' h₂ from hs₂).extBut holeC.2.1
      have hit₂ : IsL h₂ D items n := (show Heap.SameBut C h'' h₂ from hs₂).extBut D _ hDC hit₁
      have hCL : c.L < C := by
        obtain ⟨_, ⟨o, _, _, h1, _⟩, _⟩ := p.st.ns
        have : c.L < D := by rw [← hDe]; exact Heap.lt_size (hk _ _ h1)
        rw [hCs]; exact Nat.lt_succ_of_lt this
      have S' : St (c.at C) (upd (fun _ => none) x u) σ' { s' with heap := h₂, toks := tk + 1 } := comp_in P₂ hn₂ he hσC hCL
      refine wpAny_tests_one (wpAny_mono (turn (er val) i ys σ' u C hInv (by rw [hsrc']; exact hu) (comp_env ho hkind) _ S') (fun b s₃ ⟨m₃, σ₃, p₃, q₃⟩ => ?_) fun _ _ e => e.elim)
      obtain ⟨oI, hI2, ATS⟩ := comp_at hat''
      have hIo : h₂.get? I = some oI := (show Heap.SameBut C h'' h₂ from hs₂).extBut I oI hIlt.2 hI2
      have ATS : ∀ s₅ σ₅ ys', Inv (er val) (i + 1) ys' σ₅ → Pst c σ₁ s₁ m₁ σ₅ s₅ → s₅.heap.get? I = some oI → sr.At c.prog c.w s₅.heap I (i + 1) := fun s₅ σ₅ ys' q P₅ hI5 => ATS _ _ _ P₅.st (by have hok := ok _ _ _ _ q; rw [hsrc'] at hok; exact hok) hI5
      cases b with
      | false =>
        obtain ⟨P₄, hσC4, KEEP⟩ := comp_back P₂ p₃ holeC.1 hC
        obtain ⟨hI4, hσI4⟩ := KEEP I oI hIlt.2 hσI hIo
        obtain ⟨hD4, hσD4⟩ := KEEP D _ hDC hσD hit₂
        have hD4 : IsL s₃.heap D items n := hD4
        rw [if_neg (by decide)]
        have q := q₃.2 rfl
        obtain ⟨mC4, hc1, _⟩ := p₃.st.ns
        exact ⟨sr.items.length + 1 - (i + 1), by omega, i + 1, ys, σ₃, P₄, q, ATS _ _ _ q P₄ hI4, _, _, hD4, hys, mC4, hc1, hσI4, hσD4, hσC4, by omega, hlt, rfl⟩
      | true =>
        rw [if_pos rfl]
        refine wpAny_mono (q₃.1 rfl s₃ p₃.st) (fun y s₄ ⟨m₄, σ₄, p₄', q₄⟩ => ?_) fun _ _ e => e.elim
        have p₄ := p₃.trans p₄'
        obtain ⟨P₄, hσC4, KEEP⟩ := comp_back P₂ p₄ holeC.1 hC
        obtain ⟨hI4, hσI4⟩ := KEEP I oI hIlt.2 hσI hIo
        obtain ⟨hD4, hσD4⟩ := KEEP D _ hDC hσD hit₂
        have hD4 : IsL s₄.heap D items n := hD4
        have hsz : items.size ≤ 1000 := by
          have e1 : items.size = ys.length := by simpa using congrArg List.length hys
          have : sr.items.length ≤ 1000 := by rw [← hsrc']; exact hlen
          omega
        refine append_call hD4 (by rw [sizeLine_eq]; omega) ?_
        have hsb5 : Heap.SameBut D s₄.heap (s₄.heap.update D (Obj.mapSeq fun xs => xs.push y)) := Heap.SameBut.update ..
        have P₅ := P₄.other (tk := s₄.toks) hD holeD.1 hσD4 hsb5.extBut holeD.2.1
        obtain ⟨mC4, ⟨oC, es, ep, hc1, hc2⟩, _⟩ := p₄.st.ns
        exact ⟨sr.items.length + 1 - (i + 1), by omega, i + 1, ys ++ [er y], σ₄, P₅, q₄, ATS _ _ _ q₄ P₅ (hsb5.extBut I oI hIlt.1 hI4), _, _, hD4.update _, by simp [hys], mC4, ⟨oC, es, ep, hsb5.extBut C oC (Ne.symm hDC) hc1, hc2⟩, hσI4, hσD4, hσC4, by simp; omega, hlt, rfl⟩
  exact codeAny_compStart_list (loop _ rfl) (pyIter_self (hat.keeps old) (loop _ rfl))
theorem assign_comp {elt iter : Expr} {px py spos : Pos} {y : Str} {scope : Scope} {cl : List (Str × Addr)} (hh : c.A.handled = none) (ho : EnvOk c env) (hyk : env.kindOf y = some .local) (src : V → Src) (Inv : V → Nat → List V → Hp → Prop)
    (h : Ev c E (eval iter env) m σ fun v m₁ σ₁ => (src v).Is c σ₁ v ∧ Inv v 0 [] σ₁ ∧ (src v).items.length ≤ 1000 ∧ ∀ ys σ₂ D, Inv v (src v).items.length ys σ₂ → σ₂ D = none → QF .next (upd m₁ y (.ref D)) (upd σ₂ D (.list ys)))
    (ok : ∀ v i ys σ, Inv v i ys σ → (src v).Ok c σ)
    (turn : ∀ v i ys σ u C, Inv v i ys σ → (src v).items[i]? = some u → EnvOk (c.at C) (compEnvC scope cl C env) → Ev (c.at C) NoE (eval elt (compEnvC scope cl C env)) (upd (fun _ => none) x u) σ fun y _ σ' => Inv v (i + 1) (ys ++ [y]) σ')
    (hclos : closureFor scope env = pure cl) (hcell : (scope.names.all fun y => y.2 != .cell) = true) (hkind : scope.kind = .function)
    (hnames : (scope.names.all fun y => y.2 != .local || scope.names.lookup y.1 == some .local) = true) (hx : scope.names.lookup x = some .local)
    (hs : ∀ x, foldedSetIterable iter env x = pure x := by intro _; rfl) (hsw : swapsWith (.ListComp elt [⟨.Name x px, iter, [], 0⟩] scope pos) (some (.Name y py)) spos.line env = pure true := by rfl) : X c E (exec (.Assign [.Name y py] (.ListComp elt [⟨.Name x px, iter, [], 0⟩] scope pos) spos) env) m σ QF := fun s S => by
  rw [exec_Assign_Name_used _ _ _ _ hsw]
  refine wpAny_bind (wpAny_standAt (wpAny_bind ?_))
  show wpAny _ c.A (do let _ ← comprehension (.ListComp elt [⟨.Name x px, iter, [], 0⟩] scope pos) scope env _ (newList []) false (eval iter env) (some (assign (.Name y py) env))) _ _ s
  have hnames' : ∀ y ∈ scope.names, y.2 = .local → scope.names.lookup y.1 = some .local := fun y hy e => by
    have := List.all_eq_true.mp hnames y hy
    simpa [e] using this
  have hcell' : ∀ y ∈ scope.names, y.2 ≠ .cell := fun y hy => by simpa using List.all_eq_true.mp hcell y hy
  refine wpAny_bind (wpAny_mono (wpAny_comprehension_free (use := some (assign (.Name y py) env)) (Q := fun _ s' => ∃ m' σ', Pst c σ s m' σ' s' ∧ QF .next m' σ') rfl hs hclos hkind hnames' (W.step h S fun val s₁ m₁ σ₁ p q => pyIter_src p.st q.1 fun I h' hI hat hk => ?_)) (fun _ s' hq => wpAny_pure (wpAny_pure hq)) fun _ _ e => e)
  obtain ⟨hIs, hI0, hlen, hQ⟩ := q
  generalize hsrc : src (er val) = sr at hat
  have holeI := p.st.hole hI
  have p₁ := p.st.keeps (tk := s₁.toks) hk
  -- the growing list
  refine wpAny_newObj_type (wpAny_newFunctionEnv hcell' (by intro y hy; simp at hy) (fun h₁ hns₁ hsb₁ => ?_) hkind)
  dsimp only at hns₁ hsb₁ ⊢
  generalize hH2 : h'.push { cls := .type "list", dict := none, data := .seq ([] : List Value).toArray } = H2 at hns₁ hsb₁ ⊢
  generalize hDe : h'.objs.size = D
  generalize hCe : H2.objs.size = C at hns₁ hsb₁
  have hCs : C = D + 1 := by rw [← hCe, ← hH2, Heap.size_push, hDe]
  have fresh : ∀ a, D ≤ a → h'.get? a = none := fun a ha => by
    cases e : h'.get? a with
    | none => rfl
    | some o => exact absurd (Heap.lt_size e) (Nat.not_lt.mpr (by rw [hDe]; exact ha))
  have freshS : ∀ a, D ≤ a → s₁.heap.get? a = none := fun a ha => by
    cases e : s₁.heap.get? a with
    | none => rfl
    | some o => have := fresh a ha; rw [hk a o e] at this; cases this
  have hD := freshS D (Nat.le_refl _)
  have hC := freshS C (by rw [hCs]; exact Nat.le_succ _)
  have holeD := p.st.hole hD
  have holeC := p.st.hole hC
  have hDC : D ≠ C := by rw [hCs]; exact Nat.ne_of_lt (Nat.lt_succ_self _)
  have hIlt : I ≠ D ∧ I ≠ C := by
    have : ∃ o, h'.get? I = some o := by
      cases sr with
      | list a xs => obtain ⟨⟨o, h1, _⟩, _⟩ := hat; exact ⟨o, h1⟩
      | range n => exact ⟨_, hat⟩
    obtain ⟨o, ho'⟩ := this
    have hlt : I < D := by rw [← hDe]; exact Heap.lt_size ho'
    exact ⟨Nat.ne_of_lt hlt, Nat.ne_of_lt (by rw [hCs]; exact Nat.lt_succ_of_lt hlt)⟩
  have old : ∀ b o, h'.get? b = some o → h₁.get? b = some o := fun b o e => by
    have hlt : b < D := by rw [← hDe]; exact Heap.lt_size e
    exact hsb₁.extBut b o (Nat.ne_of_lt (by rw [hCs]; exact Nat.lt_succ_of_lt hlt)) (Heap.get?_push_of_some _ (hH2 ▸ Heap.get?_push_of_some _ e))
  have hacc : IsL h₁ D #[] 0 := hsb₁.extBut D _ hDC (Heap.get?_push_of_some _ (hH2 ▸ hDe ▸ Heap.get?_push_size _ rfl))
  have hsrc' : src (er val) = sr := hsrc
  -- the loop
  have loop : ∀ s₃ : Shared, s₃ = { s₁ with heap := h₁, toks := s₁.toks + ([] : List (Str × Value)).length } →
      codeAny c.M c.A (.compLoop (.ListComp elt [⟨.Name x px, iter, [], 0⟩] scope pos) 0 (.ref I) (.ref D) (compEnvC scope cl C env)) (compPost c.M c.A E (some (assign (.Name y py) env)) (fun _ s' => ∃ m' σ', Pst c σ s m' σ' s' ∧ QF .next m' σ') (.ref D) C) s₃ := by
    rintro s₃ rfl
    refine codeAny_compLoop_list (CompI c σ₁ s₁ m₁ sr I D C (Inv (er val))) ?_ (sr.items.length + 1)
      ⟨0, [], σ₁, p.st.keeps (tk := _) (fun b o e => old b o (hk b o e)), hI0, hat.keeps old, #[], 0, hacc, rfl, _, hns₁, holeI.2.2, holeD.2.2, holeC.2.2, Nat.le_refl _, Nat.zero_le _, rfl⟩
    rintro k s' ⟨i, ys, σ', P, hInv, hat', items, n, hit, hys, mC, hnC, hσI, hσD, hσC, hyl, hi, rfl⟩
    cases hu : sr.items[i]? with
    | none =>
      have hlen' : i = sr.items.length := Nat.le_antisymm hi (by simpa using hu)
      refine pyNext_end hh hat' hu fun h'' hx' => ?_
      have P₁ := P.other (tk := s'.toks) hI holeI.1 hσI hx' holeI.2.1
      have hD3 : IsL h'' D items n := hx' D _ (Ne.symm hIlt.1) hit
      have P₃ : Pst c σ₁ s₁ m₁ (upd σ' D (.list ys)) { s' with heap := h'' } := P₁.adopt hD holeD.1 holeD.2.1 ⟨items, n, hD3, hys⟩
      have hQ' := hQ ys σ' D (by rw [hsrc', ← hlen']; exact hInv) hσD
      have hσC' : upd σ' D (O.list ys) C = none := upd_none (Ne.symm hDC) hσC
      refine wpAny_mono (asg_local (c := c) (E := E) (x := y) (pos := py) (val := .ref D) (u := .ref D) ho hyk rfl (QU := fun _ m' σ'' => m' = upd m₁ y (.ref D) ∧ σ'' = upd σ' D (.list ys)) ⟨rfl, rfl⟩ _ P₃.st) (fun _ s₅ ⟨m₅, σ₅, p₅, e5, e6⟩ => ?_) fun _ _ e => e
      subst e5; subst e6
      obtain ⟨oC, es, ep, hC1, hC2⟩ := hnC.extBut hx' (Ne.symm hIlt.2)
      refine ⟨mC, ⟨oC, es, ep, p₅.frame C oC holeC.1 hσC' hC1, hC2⟩, fun h3 hs3 => ?_⟩
      have P₅ := P₃.trans p₅
      exact ⟨_, _, p.trans (P₅.other (tk := s₅.toks) hC holeC.1 hσC' hs3.extBut holeC.2.1), hQ'⟩
    | some u =>
      have hlt : i < sr.items.length := (List.getElem?_eq_some_iff.mp hu).1
      refine pyNext_item hat' hu fun uv h'' tk he hsb hat'' => ?_
      have P₁ := P.other (tk := tk) hI holeI.1 hσI hsb.extBut holeI.2.1
      have hnC₁ := hnC.extBut hsb.extBut (Ne.symm hIlt.2)
      have hit₁ : IsL h'' D items n := hsb.extBut D _ (Ne.symm hIlt.1) hit
      -- the inner frame's own state
      refine wpAny_assign_Name (wpAny_storeName_local (lookup_relabel_local hx) (show (⟨h'', _, _, _, _⟩ : Shared).heap.Ns C mC from hnC₁) (fun h₂ hn₂ hs₂ => ?_) (by simp [compEnvC, relabel, hkind]))
      have P₂ := P₁.other (tk := tk + 1) hC holeC.1 hσC (show Heap.SameBut C h'' h₂ from hs₂).extBut holeC.2.1
      have hit₂ : IsL h₂ D items n := (show Heap.SameBut C h'' h₂ from hs₂).extBut D _ hDC hit₁
      have hCL : c.L < C := by
        obtain ⟨_, ⟨o, _, _, h1, _⟩, _⟩ := p.st.ns
        have : c.L < D := by rw [← hDe]; exact Heap.lt_size (hk _ _ h1)
        rw [hCs]; exact Nat.lt_succ_of_lt this
      have S' : St (c.at C) (upd (fun _ => none) x u) σ' { s' with heap := h₂, toks := tk + 1 } := comp_in P₂ hn₂ he hσC hCL
      refine wpAny_mono (turn (er val) i ys σ' u C hInv (by rw [hsrc']; exact hu) (comp_env ho hkind) _ S') (fun y s₄ ⟨m₄, σ₄, p₄, q₄⟩ => ?_) fun _ _ e => e.elim
      obtain ⟨oI, hI2, ATS⟩ := comp_at hat''
      have hIo : h₂.get? I = some oI := (show Heap.SameBut C h'' h₂ from hs₂).extBut I oI hIlt.2 hI2
      obtain ⟨P₄, hσC4, KEEP⟩ := comp_back P₂ p₄ holeC.1 hC
      obtain ⟨hI4, hσI4⟩ := KEEP I oI hIlt.2 hσI hIo
      obtain ⟨hD4, hσD4⟩ := KEEP D _ hDC hσD hit₂
      have hD4 : IsL s₄.heap D items n := hD4
      -- the item is appended
      have hsz : items.size ≤ 1000 := by
        have e1 : items.size = ys.length := by simpa using congrArg List.length hys
        have : sr.items.length ≤ 1000 := by rw [← hsrc']; exact hlen
        omega
      refine append_call hD4 (by rw [sizeLine_eq]; omega) ?_
      have hsb5 : Heap.SameBut D s₄.heap (s₄.heap.update D (Obj.mapSeq fun xs => xs.push y)) := Heap.SameBut.update ..
      have P₅ := P₄.other (tk := s₄.toks) hD holeD.1 hσD4 hsb5.extBut holeD.2.1
      obtain ⟨mC4, ⟨oC, es, ep, hc1, hc2⟩, _⟩ := p₄.st.ns
      refine ⟨sr.items.length + 1 - (i + 1), by omega, i + 1, ys ++ [er y], σ₄, P₅, q₄, ?_, _, _, hD4.update _, by simp [hys], mC4, ⟨oC, es, ep, hsb5.extBut C oC (Ne.symm hDC) hc1, hc2⟩, hσI4, hσD4, hσC4, by simp; omega, hlt, rfl⟩
      have hok := ok _ _ _ _ q₄
      rw [hsrc'] at hok
      exact ATS _ _ _ P₅.st hok (hsb5.extBut I oI hIlt.1 hI4)
  exact codeAny_compStart_list (loop _ rfl) (pyIter_self (hat.keeps old) (loop _ rfl))
end
end Mine

namespace Mine
open PySem PySem.Calls PyProof.Rows PySem.SeqAt

-- a name's value; an object of the heap; one step of the walk
local macro_rules | `(tactic| walk_at "vlook") => `(tactic| ((repeat' (first | with_reducible assumption | with_reducible exact upd_self | (with_reducible refine upd_ne (ofString_ne (by decide)) ?_))); done))
local macro_rules | `(tactic| walk_at "hlook") => `(tactic| ((repeat' (first | with_reducible assumption | with_reducible exact upd_self | (with_reducible refine upd_new (by with_reducible assumption) ?_) | (with_reducible refine upd_ne (by with_reducible assumption) ?_))); done))
local macro_rules | `(tactic| walk_at "sees") => `(tactic| first | with_reducible assumption | (with_reducible refine Sees.base ?_; with_reducible assumption) | (with_reducible refine Sees.own ?_; walk_at "hlook"))
local macro_rules | `(tactic| walk_at "stp") => `(tactic| (first
  | (with_reducible first | refine execs_cons ?_ | refine execs_nil ?_ | refine if_ ?_ | refine ret ?_ | refine true_not ?_ | refine true_and ?_ | refine true_or ?_ | refine true_and_nil ?_ | refine true_or_nil ?_ | refine binop ?_ | refine unop ?_ | refine bool_one ?_ | refine bool_and ?_ | refine bool_or ?_ | refine list_disp ?_ | refine tuple_disp ?_ | refine evs_nil ?_ | refine const_int ?_ | refine const_str ?_ | refine const_bool ?_ | refine const_none ?_ | refine slice_from ?_ | refine slice_upto ?_ | refine slice_all ?_ | refine subscript ?_ | refine Leads.go (by assumption) ?_)
  | ((with_reducible show X _ _ (exec (Stmt.Assign [Expr.Name _ _] _ _) _) _ _ _); refine assign_local (by assumption) (by rfl) ?_ (by rfl))
  | ((with_reducible show X _ _ (exec (Stmt.Assign [Expr.Name _ _] _ _) _) _ _ _); refine assign_cell (by assumption) (by rfl) (by rfl) ?_ (by rfl))
  | ((with_reducible show X _ _ (exec (Stmt.Expr _ _) _) _ _ _); refine expr_ ?_ (by rfl) (by rfl))
  | ((with_reducible show W _ _ (isTrue (Expr.Compare _ _ _ _) _ _) _ _ _); refine true_compare ?_ (by with_unfolding_all rfl))
  | ((with_reducible show Ev _ _ (eval (Expr.Compare _ _ _ _) _) _ _ _); refine compare ?_ (by with_unfolding_all rfl))
  | ((with_reducible show Ev _ _ (eval (Expr.Call (Expr.Attribute _ _ _) _ _ _) _) _ _ _); refine append_ ?_ (by rfl) (by rfl))
  | ((with_reducible show Evs _ _ (spliced (backTo _ (starEach (_ :: _) _))) _ _ _); refine evs_cons ?_ (by rfl))
  | ((with_reducible show Ev _ _ (eval (Expr.Name _ _) _) _ _ _); refine name_local (by assumption) (by rfl) (by walk_at "vlook") ?_ (by decide))
  | ((with_reducible show Ev _ _ (eval (Expr.Name _ _) _) _ _ _); refine name_cell (by assumption) (by rfl) (by rfl) (by walk_at "sees") ?_ (by decide))
  | ((with_reducible show W _ _ (isTrue _ _ _) _ _ _); refine true_plain ?_ (by rfl))
  | fail "no step"); (try dsimp only))
local macro_rules | `(tactic| walk_at "run") => `(tactic| repeat walk_at "stp")
local macro_rules | `(tactic| walk_at "op0") => `(tactic| (first
  | ((with_reducible show Op2 _ _ (subscriptTail _ _) _ _ _ _ _); first
    | (refine' sub_tuple ?k1 ?k2 ?k3 ?k4 ?_ ?k5; (case k1 => walk_at "sees"); (case k2 => first | decide | omega); (case k3 => first | decide | omega); (case k4 => first | rfl | assumption); (case k5 => intro _; with_unfolding_all rfl))
    | (refine' sub_list ?k1 ?k2 ?k3 ?k4 ?_ ?k5; (case k1 => walk_at "sees"); (case k2 => first | decide | omega); (case k3 => first | decide | omega); (case k4 => first | assumption | rfl); (case k5 => intro _; with_unfolding_all rfl))
    | (refine' sub_dict ?k1 ?k2 ?_ ?k5; (case k1 => walk_at "sees"); (case k2 => assumption); (case k5 => intro _; with_unfolding_all rfl)))
  | ((with_reducible show Op2 _ _ (compareOp CmpOp.NotIn) _ _ _ _ _); first
    | (refine' op_notin_strs ?k1 ?_; (case k1 => walk_at "sees"))
    | (refine' op_notin_dict ?k1 ?_; (case k1 => walk_at "sees")))
  | ((with_reducible show Op2 _ _ (compareOp CmpOp.In) _ _ _ _ _); first
    | (refine' op_in_strs ?k1 ?_; (case k1 => walk_at "sees"))
    | (refine' op_in_ints ?k1 ?_; (case k1 => walk_at "sees"))
    | (refine' op_in_dict ?k1 ?_; (case k1 => walk_at "sees")))
  | ((with_reducible show Op2 _ _ (binaryOp Operator.Add) _ _ _ _ _); refine' op_add ?_)
  | ((with_reducible show Op2 _ _ (binaryOp Operator.Sub) _ _ _ _ _); refine' op_sub ?_)
  | ((with_reducible show Op2 _ _ (compareOp CmpOp.Eq) _ _ _ _ _); first | refine' op_eq_int ?_ | refine' op_eq_str ?_ | refine' op_eq_bool ?_)
  | ((with_reducible show Op2 _ _ (compareOp CmpOp.NotEq) _ _ _ _ _); first | refine' op_ne_int ?_ | refine' op_ne_str ?_ | refine' op_ne_bool ?_)
  | ((with_reducible show Op2 _ _ (compareOp CmpOp.Lt) _ _ _ _ _); refine' op_lt_int ?_)
  | ((with_reducible show Op2 _ _ (compareOp CmpOp.Gt) _ _ _ _ _); refine' op_gt_int ?_)
  | fail "no op"))
local macro_rules | `(tactic| walk_at "op") => `(tactic| (walk_at "op0"; (try dsimp only)))

abbrev StrL (P : Vw) (a : Addr) (ss : List Str) : Prop := P a (.list (ss.map V.str))
def RuleP (P : Vw) (r : Addr) (x : Str × List Str) : Prop := ∃ b, P r (.tuple [V.str x.1, V.ref b]) ∧ StrL P b x.2
def GramP (P : Vw) (a : Addr) (g : G) : Prop := ∃ rs : List Addr, P a (.list (rs.map V.ref)) ∧ rs.length = g.length ∧ ∀ (i : Nat) r x, rs[i]? = some r → g[i]? = some x → RuleP P r x
theorem RuleP.mono {A B : Vw} {r : Addr} {x : Str × List Str} (h : ∀ a o, A a o → B a o) : RuleP A r x → RuleP B r x := fun ⟨b, h1, h2⟩ => ⟨b, h _ _ h1, h _ _ h2⟩
theorem GramP.mono {a : Addr} {g : G} : Mono fun P => GramP P a g := fun _ _ h ⟨rs, h1, h2, h3⟩ => ⟨rs, h _ _ h1, h2, fun i r x e1 e2 => (h3 i r x e1 e2).mono h⟩

def headsOf (g : G) : List Str := g.foldl (fun hs r => if r.1 ∈ hs then hs else hs ++ [r.1]) []
theorem headsOf_snoc (g : G) (r : Str × List Str) : headsOf (g ++ [r]) = if r.1 ∈ headsOf g then headsOf g else headsOf g ++ [r.1] := by
  rw [headsOf, List.foldl_append]; rfl
theorem headsOf_len (g : G) : (headsOf g).length ≤ g.length := by
  have key : ∀ (g : G) (hs : List Str), (g.foldl (fun hs r => if r.1 ∈ hs then hs else hs ++ [r.1]) hs).length ≤ hs.length + g.length := by
    intro g
    induction g with
    | nil => intro hs; exact Nat.le_refl _
    | cons r g ih =>
      intro hs
      rw [List.foldl_cons]
      refine Nat.le_trans (ih _) ?_
      split <;> simp <;> omega
  have := key g []
  rw [headsOf]; simpa using this

theorem take_succ_get {α : Type} {l : List α} {i : Nat} {x : α} (h : l[i]? = some x) : l.take (i + 1) = l.take i ++ [x] := by
  rw [List.take_add_one, h]; rfl
theorem map_get {α β : Type} {f : α → β} {l : List α} {i : Nat} {u : β} (h : (l.map f)[i]? = some u) : ∃ x, l[i]? = some x ∧ f x = u := by
  rw [List.getElem?_map] at h
  cases e : l[i]? with
  | none => rw [e] at h; cases h
  | some x => rw [e] at h; exact ⟨x, rfl, Option.some.inj h⟩
theorem get_same {α β : Type} {l : List α} {k : List β} {i : Nat} {x : α} (hl : l.length = k.length) (h : l[i]? = some x) : ∃ y, k[i]? = some y := by
  have := (List.getElem?_eq_some_iff.mp h).1
  exact ⟨k[i]'(by omega), by simp⟩

theorem spec_heads_of (M : Mod) (hM : Ok M) (g : G) (ag : Addr) (hz : g.length ≤ 50) : Spec M 2 (Str.ofString "heads_of") [.ref ag] (fun P => GramP P ag g) (fun v P => ∃ a, v = .ref a ∧ StrL P a (headsOf g)) := by
  refine mkSpec hM.p 0 [Str.ofString "g"] (by rfl) (by decide) (by decide) (by decide) (fun vals pm code doc h => by obtain ⟨a, rfl, _⟩ := one_val h; rfl) (by rfl) (by rfl) (by rfl) ?_ ?_ fun c L fa code I hpre Qf hQf => ?_
  · exact GramP.mono
  · rintro v A B h ⟨a, e, q⟩; exact ⟨a, e, h _ _ q⟩
  obtain ⟨rs, q1, q2, q3⟩ := hpre
  have ho := I.env
  dsimp only [vars0] at ho I ⊢
  walk_at "stp"
  walk_at "stp"
  walk_at "stp"
  walk_at "stp"
  refine ⟨by simp, fun ah hah => ?_⟩
  walk_at "stp"
  refine for_ I.room.1 (fun _ => .list ag (rs.map V.ref)) (fun _ i m σ => m (Str.ofString "heads") = some (.ref ah) ∧ σ ah = some (.list ((headsOf (g.take i)).map V.str)))
      ?_ (fun _ i m σ _ => .inr q1) (fun _ i m σ u hI hu val hval Qz hQz => ?_) (fun _ m σ hI => ?_)
  · walk_at "stp"
    exact ⟨⟨rfl, .inr q1⟩, upd_self, upd_self⟩
  · obtain ⟨hI1, hI2⟩ := hI
    obtain ⟨r, hr, rfl⟩ := map_get hu
    obtain ⟨⟨hd, bd⟩, hx⟩ := get_same q2 hr
    obtain ⟨b, k1, k2⟩ := q3 i r _ hr hx
    refine asg_local ho (by rfl) hval ?_
    have hlen := headsOf_len (g.take i)
    have hti : (g.take i).length ≤ g.length := by rw [List.length_take]; exact Nat.min_le_right _ _
    have hsn : headsOf (g.take (i + 1)) = if hd ∈ headsOf (g.take i) then headsOf (g.take i) else headsOf (g.take i) ++ [hd] := by rw [take_succ_get hx, headsOf_snoc]
    walk_at "run"
    walk_at "op"
    walk_at "run"
    walk_at "op"
    refine ⟨_, rfl, fun hb => ?_, fun hb => ?_⟩
    · have hb : ¬ hd ∈ headsOf (g.take i) := by simpa using hb
      walk_at "run"
      refine ⟨ah, rfl, ⟨_, .inl hI2⟩, ?_⟩
      walk_at "run"
      walk_at "op"
      refine ⟨_, hI2, by simp; omega, rfl, ?_⟩
      walk_at "run"
      refine ⟨by walk_at "vlook", ?_⟩
      rw [upd_self, hsn, if_neg hb, List.map_append]; rfl
    · have hb : hd ∈ headsOf (g.take i) := by simpa using hb
      walk_at "run"
      refine ⟨by walk_at "vlook", ?_⟩
      rw [hI2, hsn, if_pos hb]
  · obtain ⟨hI1, hI2⟩ := hI
    walk_at "run"
    refine ⟨_, rfl, ah, rfl, ?_⟩
    have : (Src.list ag (rs.map V.ref)).items.length = g.length := by simp [Src.items, q2]
    rw [this, List.take_length] at hI2
    exact hI2

def dedup (l : List Str) : List Str := l.foldl (fun u x => if x ∈ u then u else u ++ [x]) []
theorem dedup_snoc (l : List Str) (x : Str) : dedup (l ++ [x]) = if x ∈ dedup l then dedup l else dedup l ++ [x] := by
  rw [dedup, List.foldl_append]; rfl
theorem dedup_spec (l : List Str) : (dedup l).Nodup ∧ (∀ x, x ∈ dedup l ↔ x ∈ l) ∧ (dedup l).length ≤ l.length := by
  have key : ∀ (l u : List Str), u.Nodup → (l.foldl (fun u x => if x ∈ u then u else u ++ [x]) u).Nodup ∧ (∀ x, x ∈ l.foldl (fun u x => if x ∈ u then u else u ++ [x]) u ↔ x ∈ u ∨ x ∈ l) ∧ (l.foldl (fun u x => if x ∈ u then u else u ++ [x]) u).length ≤ u.length + l.length := by
    intro l
    induction l with
    | nil => intro u hu; exact ⟨hu, by simp, Nat.le_refl _⟩
    | cons y l ih =>
      intro u hu
      rw [List.foldl_cons]
      by_cases hy : y ∈ u
      · rw [if_pos hy]
        obtain ⟨h1, h2, h3⟩ := ih u hu
        refine ⟨h1, fun x => (h2 x).trans ?_, by simp; omega⟩
        rw [List.mem_cons]
        constructor
        · rintro (h | h)
          · exact .inl h
          · exact .inr (.inr h)
        · rintro (h | rfl | h)
          · exact .inl h
          · exact .inl hy
          · exact .inr h
      · rw [if_neg hy]
        have hu' : (u ++ [y]).Nodup := by
          rw [List.nodup_append]
          refine ⟨hu, by simp, ?_⟩
          intro a ha b hb
          rw [List.mem_singleton] at hb
          subst hb
          exact fun e => hy (e ▸ ha)
        obtain ⟨h1, h2, h3⟩ := ih _ hu'
        refine ⟨h1, fun x => (h2 x).trans ?_, by simp at h3 ⊢; omega⟩
        simp [or_assoc]
  obtain ⟨h1, h2, h3⟩ := key l [] .nil
  refine ⟨h1, fun x => ?_, by simpa [dedup] using h3⟩
  rw [dedup, h2]; simp

/-- two sets joined -/
def IsUnion (a b u : List Str) : Prop := Canon u ∧ ∀ x, x ∈ u ↔ x ∈ a ∨ x ∈ b

theorem spec_merged (M : Mod) (hM : Ok M) (a b : List Str) (la lb : Addr) (hz : a.length + b.length ≤ 60) :
    Spec M 2 (Str.ofString "merged") [.ref la, .ref lb] (fun P => StrL P la a ∧ StrL P lb b) (fun v P => ∃ r u, v = .ref r ∧ StrL P r u ∧ IsUnion a b u) := by
  refine mkSpec hM.p 1 [Str.ofString "a", Str.ofString "b"] (by rfl) (by decide) (by decide) (by decide) (fun vals pm code doc h => by obtain ⟨a, b, rfl⟩ := two_val h; rfl) (by rfl) (by rfl) (by rfl) ?_ ?_ fun c L fa code I hpre Qf hQf => ?_
  · rintro A B h ⟨q1, q2⟩; exact ⟨h _ _ q1, h _ _ q2⟩
  · rintro v A B h ⟨r, u, e, q, k⟩; exact ⟨r, u, e, h _ _ q, k⟩
  obtain ⟨q1, q2⟩ := hpre
  have ho := I.env
  dsimp only [vars0] at ho I ⊢
  walk_at "run"
  refine ⟨by simp, fun au hau => ?_⟩
  walk_at "stp"
  refine for_ I.room.1 (fun v => .list v.addr ((a ++ b).map V.str)) (fun v i m σ => And4 (m (Str.ofString "union") = some (.ref au)) (σ au = some (.list ((dedup ((a ++ b).take i)).map V.str))) (σ v.addr = some (.list ((a ++ b).map V.str))) (au ≠ v.addr))
      ?_ (fun _ i m σ h => .inl h.h3) (fun v i m σ u hI hu val hval Qz hQz => ?_) (fun _ m σ hI => ?_)
  · walk_at "run"
    refine op_addl (.inr q1) (.inr q2) (by simpa using (by omega : a.length + b.length ≤ 1000)) fun r hr => ?_
    have hne : au ≠ r := ne_of_new hr upd_self
    refine ⟨⟨rfl, .inl ?_⟩, by walk_at "vlook", upd_new hr upd_self, ?_, hne⟩
    · show upd _ r _ r = _
      rw [upd_self, List.map_append]
    · show upd _ r _ r = _
      rw [upd_self, List.map_append]
  · obtain ⟨hI1, hI2, hI3, hI4⟩ := hI
    obtain ⟨x, hx, rfl⟩ := map_get hu
    refine asg_local ho (by rfl) hval ?_
    have hlen := (dedup_spec ((a ++ b).take i)).2.2
    have hti : ((a ++ b).take i).length ≤ a.length + b.length := by rw [List.length_take, List.length_append]; exact Nat.min_le_right _ _
    have hsn : dedup ((a ++ b).take (i + 1)) = if x ∈ dedup ((a ++ b).take i) then dedup ((a ++ b).take i) else dedup ((a ++ b).take i) ++ [x] := by rw [take_succ_get hx, dedup_snoc]
    walk_at "run"
    walk_at "op"
    refine ⟨_, rfl, fun hb => ?_, fun hb => ?_⟩
    · have hb : ¬ x ∈ dedup ((a ++ b).take i) := by simpa using hb
      walk_at "run"
      refine ⟨au, rfl, ⟨_, .inl hI2⟩, ?_⟩
      walk_at "run"
      refine ⟨_, hI2, by simp; omega, rfl, ?_⟩
      walk_at "run"
      refine ⟨by walk_at "vlook", ?_, upd_ne (Ne.symm hI4) hI3, hI4⟩
      rw [upd_self, hsn, if_neg hb, List.map_append]; rfl
    · have hb : x ∈ dedup ((a ++ b).take i) := by simpa using hb
      walk_at "run"
      refine ⟨by walk_at "vlook", ?_, hI3, hI4⟩
      rw [hI2, hsn, if_pos hb]
  · obtain ⟨hI1, hI2, hI3, hI4⟩ := hI
    have : (Src.list (V.addr ‹V›) ((a ++ b).map V.str)).items.length = (a ++ b).length := by simp [Src.items]
    rw [this, List.take_length] at hI2
    obtain ⟨d1, d2, d3⟩ := dedup_spec (a ++ b)
    walk_at "run"
    refine call_sorted hM I (by rfl) ?_
    walk_at "run"
    refine ⟨au, _, rfl, .inl hI2, ?_, fun r ss' hr hp hs => ?_⟩
    · rw [List.length_append] at d3; omega
    · refine hQf.go <| ⟨_, rfl, r, ss', rfl, upd_self, ⟨hp.nodup_iff.mpr d1, hs⟩, fun x => ?_⟩
      rw [hp.mem_iff, d2, List.mem_append]

/-- heads built from given symbols: closed under the rules -/
def BClosed (g : G) (gv : List Str) (N : Str → Prop) : Prop := ∀ h r, (h, r) ∈ g → (∀ s ∈ r, s ∈ gv ∨ N s) → N h
structure Found (g : G) (gv found : List Str) : Prop where
  nodup : found.Nodup
  heads : ∀ x ∈ found, IsHead g x
  least : ∀ N, BClosed g gv N → ∀ x ∈ found, N x
theorem Found.len {g : G} {gv found : List Str} (h : Found g gv found) : found.length ≤ g.length := by
  have := List.Nodup.length_le_of_subset h.nodup (l₂ := g.map (·.1)) fun x hx => by
    obtain ⟨r, hr⟩ := h.heads x hx
    exact List.mem_map.mpr ⟨_, hr, rfl⟩
  simpa using this
theorem Found.add {g : G} {gv found : List Str} (h : Found g gv found) {x : Str} {r : List Str} (hr : (x, r) ∈ g) (hx : x ∉ found) (hb : ∀ s ∈ r, s ∈ gv ∨ s ∈ found) : Found g gv (found ++ [x]) where
  nodup := by
    rw [List.nodup_append]
    refine ⟨h.nodup, by simp, ?_⟩
    intro a ha b hb
    rw [List.mem_singleton] at hb
    subst hb
    exact fun e => hx (e ▸ ha)
  heads := fun y hy => by
    rcases List.mem_append.mp hy with q | q
    · exact h.heads y q
    · rw [List.mem_singleton.mp q]; exact ⟨r, hr⟩
  least := fun N hN y hy => by
    rcases List.mem_append.mp hy with q | q
    · exact h.least N hN y q
    · rw [List.mem_singleton.mp q]
      exact hN x r hr fun s hs => (hb s hs).imp id (h.least N hN s)

inductive I3a (g : G) (gv : List Str) (ag av af L : Addr) (k : Nat) (m : Vars) (σ : Hp) : Prop
  | mk (found : List Str) (ch : Bool) (h1 : m (Str.ofString "g") = some (.ref ag)) (h2 : m (Str.ofString "changed") = some (.bool ch)) (h3 : σ (L + 1) = some (.cell (some (.ref av)))) (h4 : σ (L + 1 + 1) = some (.cell (some (.ref af)))) (h5 : σ af = some (.list (found.map V.str))) (h6 : Found g gv found) (h7 : ch = true → k = g.length - found.length + 1) (h8 : ch = false → BClosed g gv (· ∈ found))
inductive I3b (g : G) (gv : List Str) (ag av af L : Addr) (found : List Str) (i : Nat) (m : Vars) (σ : Hp) : Prop
  | mk (fnd : List Str) (ch : Bool) (h1 : m (Str.ofString "g") = some (.ref ag)) (h2 : m (Str.ofString "changed") = some (.bool ch)) (h3 : σ (L + 1) = some (.cell (some (.ref av)))) (h4 : σ (L + 1 + 1) = some (.cell (some (.ref af)))) (h5 : σ af = some (.list (fnd.map V.str))) (h6 : Found g gv fnd) (h7 : ch = true → found.length < fnd.length) (h8 : ch = false → fnd = found ∧ ∀ x ∈ g.take i, (∀ s ∈ x.2, s ∈ gv ∨ s ∈ found) → x.1 ∈ found)
theorem spec_heads_built_from (M : Mod) (hM : Ok M) (g : G) (gv : List Str) (ag av : Addr) (hz : g.length ≤ 50) (hb2 : ∀ x ∈ g, x.2.length ≤ 1000) :
    Spec M 2 (Str.ofString "heads_built_from") [.ref ag, .ref av] (fun P => GramP P ag g ∧ StrL P av gv)
      (fun v P => ∃ r ss, v = .ref r ∧ StrL P r ss ∧ Found g gv ss ∧ BClosed g gv (· ∈ ss)) := by
  refine mkSpecC hM.p 2 [Str.ofString "g", Str.ofString "given"] (upd (fun _ => none) (Str.ofString "g") (.ref ag)) (fun L => upd (upd (fun _ => none) (L + 1) (.cell (some (.ref av)))) (L + 1 + 1) (.cell none)) (by rfl)
    (fun vals h => by obtain ⟨a, b, rfl⟩ := two_val h; rfl) (fun vals h x v e => ?_) (fun L vals h a o e => ?_)
    (fun vals pm code doc h => by obtain ⟨a, b, rfl⟩ := two_val h; rfl) (by rfl) (by rfl) (by rfl) ?_ ?_ fun c L fa code I hpre Qf hQf => ?_
  · obtain ⟨a, b, rfl⟩ := two_val h
    unfold upd at e
    split at e
    · rename_i hx; subst hx; cases e
      refine ⟨a, by rfl, ?_⟩
      simpa using (List.cons.inj h).1
    · cases e
  · obtain ⟨a', b', rfl⟩ := two_val h
    have hb : er b' = .ref av := by simpa using (List.cons.inj (List.cons.inj h).2).1
    unfold upd at e
    split at e
    · rename_i hx; subst hx; cases e
      exact ⟨Str.ofString "found", by rfl, by rfl⟩
    · split at e
      · rename_i hx; subst hx; cases e
        refine ⟨Str.ofString "given", by rfl, ?_⟩
        rw [← hb]; rfl
      · cases e
  · rintro A B h ⟨q1, q2⟩; exact ⟨GramP.mono A B h q1, h _ _ q2⟩
  · rintro v A B h ⟨r, u, e, q, k⟩; exact ⟨r, u, e, h _ _ q, k⟩
  · obtain ⟨⟨rs, q1, q2, q3⟩, q4⟩ := hpre
    have ho := I.env
    dsimp only at ho I ⊢
    walk_at "run"
    refine ⟨by simp, fun af haf => ⟨none, upd_new haf upd_self, ?_⟩⟩
    walk_at "stp"
    walk_at "stp"
    walk_at "stp"
    walk_at "stp"
    have hLne : L + 1 ≠ L + 1 + 1 := Nat.ne_of_lt (Nat.lt_succ_self _)
    have hn1 : af ≠ L + 1 := Ne.symm (ne_of_new haf (upd_ne hLne upd_self))
    have hn2 : af ≠ L + 1 + 1 := Ne.symm (ne_of_new haf upd_self)
    -- what stands between the turns of the while
    refine while_ (I3a g gv ag av af L) (g.length + 1)
      ⟨[], true, by walk_at "vlook", by walk_at "vlook", ?_, upd_self, upd_ne hn2 upd_self, ⟨.nil, fun _ h => (nomatch h), fun _ _ _ h => (nomatch h)⟩, fun _ => by simp, fun h => (nomatch h)⟩ (fun k m σ hI Qz hQz => ?_)
    · exact upd_ne hLne (upd_new haf (upd_ne hLne upd_self))
    obtain ⟨found, ch, v1, v2, c1, c2, o1, hF, hk1, hk2⟩ := hI
    walk_at "run"
    refine ⟨ch, rfl, fun hch => ?_, fun hch => ?_⟩
    · subst hch
      have hk1 := hk1 rfl
      walk_at "stp"
      walk_at "stp"
      walk_at "stp"
      walk_at "stp"
      refine for_ I.room.1 (fun _ => .list ag (rs.map V.ref)) (fun _ => I3b g gv ag av af L found)
        ?_ (fun _ i m σ _ => .inr q1) (fun _ i m σ u hI hu val hval Qz hQz => ?_) (fun _ m σ hI => ?_)
      · walk_at "stp"
        exact ⟨⟨rfl, .inr q1⟩, found, false, by walk_at "vlook", by walk_at "vlook", c1, c2, o1, hF, fun h => (nomatch h), fun _ => ⟨rfl, fun _ h => by simp at h⟩⟩
      · obtain ⟨fnd, ch, v1, v2, c1, c2, o1, hF', j1, j2⟩ := hI
        obtain ⟨r, hr, rfl⟩ := map_get hu
        obtain ⟨⟨hd, bd⟩, hx⟩ := get_same q2 hr
        obtain ⟨b, k1, k2⟩ := q3 i r _ hr hx
        have hmem : (hd, bd) ∈ g := List.mem_of_getElem? hx
        refine asg_local ho (by rfl) hval ?_
        walk_at "run"
        walk_at "op"
        walk_at "run"
        walk_at "op"
        refine ⟨_, rfl, fun hb => ?_, fun hb => ?_⟩
        · have hb : ¬ hd ∈ fnd := by simpa using hb
          walk_at "stp"
          walk_at "stp"
          refine call_all hM I (by rfl) ?_
          walk_at "stp"
          refine listcomp I.room.1 ho (cl := [(Str.ofString "given", L + 1), (Str.ofString "found", L + 1 + 1)]) (fun _ => .list b (bd.map V.str)) (fun _ i ys σ' => σ' = σ ∧ ys = (bd.take i).map fun s => V.bool (decide (s ∈ gv) || decide (s ∈ fnd)))
            ?_ (fun _ i ys σ' _ => .inr k2) (fun _ i ys σ' u C hI' hu' hoC => ?_) (by rfl) (by decide) (by rfl) (by decide) (by decide)
          · walk_at "run"
            walk_at "op"
            refine ⟨⟨rfl, .inr k2⟩, ⟨rfl, by simp⟩, ?_, fun ys σ₂ D hI' hD => ?_⟩
            · simp only [Src.items, List.length_map]; exact hb2 _ hmem
            obtain ⟨rfl, rfl⟩ := hI'
            have hlen : (Src.list b (bd.map V.str)).items.length = bd.length := by simp [Src.items]
            rw [hlen, List.take_length]
            walk_at "stp"
            refine ⟨D, bd.map fun s => decide (s ∈ gv) || decide (s ∈ fnd), rfl, .inl ?_, ?_⟩
            · rw [upd_self, List.map_map]; rfl
            have hall : ((bd.map fun s => decide (s ∈ gv) || decide (s ∈ fnd)).all id) = decide (∀ s ∈ bd, s ∈ gv ∨ s ∈ fnd) := by
              rw [Bool.eq_iff_iff]; simp
            rw [hall]
            have d1 : L + 1 ≠ D := ne_of_new hD c1
            have d2 : L + 1 + 1 ≠ D := ne_of_new hD c2
            have d3 : af ≠ D := ne_of_new hD o1
            refine ⟨_, rfl, fun hb' => ?_, fun hb' => ?_⟩
            · have hb' : ∀ s ∈ bd, s ∈ gv ∨ s ∈ fnd := by simpa using hb'
              walk_at "stp"
              refine ⟨fun _ => ?_, fun h => (nomatch h)⟩
              walk_at "run"
              refine ⟨af, rfl, ⟨_, .inl (upd_ne d3 o1)⟩, ?_⟩
              walk_at "run"
              walk_at "op"
              refine ⟨_, upd_ne d3 o1, ?_, rfl, ?_⟩
              · have := hF'.len; simp; omega
              walk_at "run"
              refine ⟨fnd ++ [hd], true, by walk_at "vlook", by walk_at "vlook", upd_ne (Ne.symm hn1) (upd_ne d1 c1), upd_ne (Ne.symm hn2) (upd_ne d2 c2), ?_, hF'.add hmem hb hb', fun _ => ?_, fun h => (nomatch h)⟩
              · rw [upd_self, List.map_append]; rfl
              · cases ch with
                | true => have := j1 rfl; simp; omega
                | false => rw [(j2 rfl).1]; simp
            · have hb' : ¬ ∀ s ∈ bd, s ∈ gv ∨ s ∈ fnd := by simpa using hb'
              refine ⟨fun h => (nomatch h), fun _ => ?_⟩
              walk_at "run"
              refine ⟨fnd, ch, by walk_at "vlook", by walk_at "vlook", upd_ne d1 c1, upd_ne d2 c2, upd_ne d3 o1, hF', j1, fun h => ⟨(j2 h).1, fun x hx' hx'' => ?_⟩⟩
              rw [take_succ_get hx] at hx'
              rcases List.mem_append.mp hx' with q | q
              · exact (j2 h).2 x q hx''
              · rw [List.mem_singleton.mp q] at hx''
                exact absurd (by rw [(j2 h).1]; exact hx'') hb'
          · obtain ⟨rfl, rfl⟩ := hI'
            obtain ⟨s', hs', rfl⟩ := map_get hu'
            have b1 : baseOf (c.at C) av (O.list (gv.map V.str)) := q4
            walk_at "run"
            walk_at "op"
            refine ⟨_, rfl, fun h1 => ?_, fun h1 => ?_⟩
            · walk_at "run"
              walk_at "op"
              refine ⟨rfl, ?_⟩
              rw [take_succ_get hs', List.map_append, List.map_singleton, h1]; rfl
            · refine ⟨rfl, ?_⟩
              rw [take_succ_get hs', List.map_append]
              simp [h1]
        · have hb : hd ∈ fnd := by simpa using hb
          refine ⟨fun h => (nomatch h), fun _ => ?_⟩
          walk_at "run"
          refine ⟨fnd, ch, by walk_at "vlook", by walk_at "vlook", c1, c2, o1, hF', j1, fun h => ⟨(j2 h).1, fun x hx' hx'' => ?_⟩⟩
          rw [take_succ_get hx] at hx'
          rcases List.mem_append.mp hx' with q | q
          · exact (j2 h).2 x q hx''
          · rw [List.mem_singleton.mp q]; rw [(j2 h).1] at hb; exact hb
      · obtain ⟨fnd, ch, v1, v2, c1, c2, o1, hF', j1, j2⟩ := hI
        have hlen : (Src.list ag (rs.map V.ref)).items.length = g.length := by simp [Src.items, q2]
        rw [hlen, List.take_length] at j2
        walk_at "run"
        have l1 := hF'.len
        have l0 := hF.len
        refine ⟨if ch then g.length - fnd.length + 1 else 0, ?_, fnd, ch, v1, v2, c1, c2, o1, hF', fun h => by simp [h], fun h x r hr hb => ?_⟩
        · cases ch with
          | true => have := j1 rfl; simp; omega
          | false => simp; omega
        · obtain ⟨e, hcl⟩ := j2 h
          rw [e] at hb ⊢
          exact hcl (x, r) hr hb
    · subst hch
      walk_at "run"
      refine call_sorted hM I (by rfl) ?_
      walk_at "run"
      have l0 := hF.len
      refine ⟨af, found, rfl, .inl o1, by omega, fun r ss' hr hp hs => hQf.go <| ⟨_, rfl, r, ss', rfl, upd_self, ⟨hp.nodup_iff.mpr hF.nodup, fun x hx => hF.heads x (hp.mem_iff.mp hx), fun N hN x hx => hF.least N hN x (hp.mem_iff.mp hx)⟩, fun x r' hr' hb => ?_⟩⟩
      exact hp.mem_iff.mpr (hk2 rfl x r' hr' fun s hs => (hb s hs).imp id hp.mem_iff.mp)

/-- the heads that vanish -/
def NullOf (g : G) (ss : List Str) : Prop := Found g [] ss ∧ BClosed g [] (· ∈ ss)

theorem spec_nullable_heads (M : Mod) (hM : Ok M) (g : G) (ag : Addr) (hz : g.length ≤ 50) (hb2 : ∀ x ∈ g, x.2.length ≤ 1000) :
    Spec M 3 (Str.ofString "nullable_heads") [.ref ag] (fun P => GramP P ag g) (fun v P => ∃ r ss, v = .ref r ∧ StrL P r ss ∧ NullOf g ss) := by
  refine mkSpec hM.p 3 [Str.ofString "g"] (by rfl) (by decide) (by decide) (by decide) (fun vals pm code doc h => by obtain ⟨a, rfl, _⟩ := one_val h; rfl) (by rfl) (by rfl) (by rfl) ?_ ?_ fun c L fa code I hpre Qf hQf => ?_
  · exact GramP.mono
  · rintro v A B h ⟨r, u, e, q, k⟩; exact ⟨r, u, e, h _ _ q, k⟩
  have ho := I.env
  dsimp only [vars0] at ho I ⊢
  walk_at "run"
  refine call_def I (by rfl) (M.fn hM.p 2 (by rfl)) ?_
  walk_at "run"
  refine ⟨by simp, fun r hr => ?_⟩
  walk_at "run"
  refine ⟨_, _, _, spec_heads_built_from M hM g [] ag r hz hb2, by decide, ⟨GramP.mono _ _ (fun a o h => .inr h) hpre, .inl upd_self⟩, fun v σ₂ hext hR => ?_⟩
  obtain ⟨r', ss, e, q, k1, k2⟩ := hR
  exact hQf.go <| ⟨_, rfl, r', ss, e, q, k1, k2⟩

/-- a dict of lists of strs -/
def DictP (P : Vw) (a : Addr) (ks : List Str) (F : Str → List Str) : Prop := ∃ f : Str → Option V, P a (.dict ks f) ∧ (∀ k, k ∈ ks → ∃ l, f k = some (.ref l) ∧ StrL P l (F k)) ∧ (∀ k, k ∉ ks → f k = none)
theorem DictP.mono {a : Addr} {ks : List Str} {F : Str → List Str} : Mono fun P => DictP P a ks F := fun _ _ h ⟨f, h1, h2, h3⟩ => ⟨f, h _ _ h1, fun k hk => let ⟨l, q1, q2⟩ := h2 k hk; ⟨l, q1, h _ _ q2⟩, h3⟩

/-- what a string of symbols can begin with -/
def FSk (ks : List Str) (F : Str → List Str) (N : List Str) : List Str → Str → Prop
  | [], _ => False
  | x :: r, y => (x ∈ ks ∧ (y ∈ F x ∨ (x ∈ N ∧ FSk ks F N r y))) ∨ (x ∉ ks ∧ y = x)
def Vk (ks N : List Str) (r : List Str) : Prop := ∀ x ∈ r, x ∈ ks ∧ x ∈ N
theorem FSk_append {ks : List Str} {F : Str → List Str} {N a b : List Str} {y : Str} (h : Vk ks N a) : FSk ks F N (a ++ b) y ↔ (∃ x ∈ a, y ∈ F x) ∨ FSk ks F N b y := by
  induction a with
  | nil => simp
  | cons x a ih =>
    have h1 := h x List.mem_cons_self
    have ih := ih fun z hz => h z (List.mem_cons_of_mem _ hz)
    rw [List.cons_append, FSk]
    constructor
    · rintro (⟨_, q | ⟨_, q⟩⟩ | ⟨q, _⟩)
      · exact .inl ⟨x, List.mem_cons_self, q⟩
      · rcases ih.mp q with ⟨z, hz, q⟩ | q
        · exact .inl ⟨z, List.mem_cons_of_mem _ hz, q⟩
        · exact .inr q
      · exact absurd h1.1 q
    · rintro (⟨z, hz, q⟩ | q)
      · rcases List.mem_cons.mp hz with rfl | hz
        · exact .inl ⟨h1.1, .inl q⟩
        · exact .inl ⟨h1.1, .inr ⟨h1.2, ih.mpr (.inl ⟨z, hz, q⟩)⟩⟩
      · exact .inl ⟨h1.1, .inr ⟨h1.2, ih.mpr (.inr q)⟩⟩
theorem FSk_in {ks : List Str} {F : Str → List Str} {N U : List Str} {r : List Str} {y : Str} (hr : ∀ x ∈ r, x ∈ U) (hF : ∀ k ∈ ks, ∀ y ∈ F k, y ∈ U) (h : FSk ks F N r y) : y ∈ U := by
  induction r with
  | nil => exact h.elim
  | cons x r ih =>
    rcases h with ⟨h1, q | ⟨_, q⟩⟩ | ⟨_, rfl⟩
    · exact hF x h1 y q
    · exact ih (fun z hz => hr z (List.mem_cons_of_mem _ hz)) q
    · exact hr _ List.mem_cons_self
theorem Canon.le {l U : List Str} (h : Canon l) (hs : ∀ x ∈ l, x ∈ U) : l.length ≤ U.length := List.Nodup.length_le_of_subset h.1 hs

/-- the answer of first_of_string -/
def FirstR (ks : List Str) (F : Str → List Str) (N sy : List Str) (v : V) (P : Vw) : Prop :=
  ∃ t r u b, v = .ref t ∧ P t (.tuple [.ref r, .bool b]) ∧ StrL P r u ∧ Canon u ∧ (∀ y, y ∈ u ↔ FSk ks F N sy y) ∧ (b = true ↔ Vk ks N sy)

theorem drop_get {α : Type} {l : List α} {i : Nat} {x : α} (h : l[i]? = some x) : l.drop i = x :: l.drop (i + 1) := by
  obtain ⟨h1, rfl⟩ := List.getElem?_eq_some_iff.mp h
  exact List.drop_eq_getElem_cons h1

inductive I4 (ks : List Str) (F : Str → List Str) (N sy : List Str) (lf ln : Addr) (i : Nat) (m : Vars) (σ : Hp) : Prop
  | mk (ab : Addr) (bg : List Str) (h1 : m (Str.ofString "firsts") = some (.ref lf)) (h2 : m (Str.ofString "nullables") = some (.ref ln)) (h3 : m (Str.ofString "begins") = some (.ref ab)) (h4 : σ ab = some (.list (bg.map V.str))) (h5 : Canon bg) (h6 : ∀ y, y ∈ bg ↔ ∃ x ∈ sy.take i, y ∈ F x) (h7 : Vk ks N (sy.take i))
theorem spec_first_of_string (M : Mod) (hM : Ok M) (ks : List Str) (F : Str → List Str) (N sy U : List Str) (ls lf ln : Addr) (hU : U.length ≤ 29) (hsy : ∀ x ∈ sy, x ∈ U) (hF : ∀ k ∈ ks, ∀ y ∈ F k, y ∈ U) (hFl : ∀ k ∈ ks, (F k).length ≤ 29) :
    Spec M 3 (Str.ofString "first_of_string") [.ref ls, .ref lf, .ref ln] (fun P => StrL P ls sy ∧ DictP P lf ks F ∧ StrL P ln N) (FirstR ks F N sy) := by
  refine mkSpec hM.p 4 [Str.ofString "symbols", Str.ofString "firsts", Str.ofString "nullables"] (by rfl) (by decide) (by decide) (by decide) (fun vals pm code doc h => by obtain ⟨a, b, d, rfl⟩ := three_val h; rfl) (by rfl) (by rfl) (by rfl) ?_ ?_ fun c L fa code I hpre Qf hQf => ?_
  · rintro A B h ⟨q1, q2, q3⟩; exact ⟨h _ _ q1, DictP.mono A B h q2, h _ _ q3⟩
  · rintro v A B h ⟨t, r, u, b, q1, q2, q3, q4⟩; exact ⟨t, r, u, b, q1, h _ _ q2, h _ _ q3, q4⟩
  obtain ⟨q1, ⟨f, q2, q3, q4⟩, q5⟩ := hpre
  have ho := I.env
  dsimp only [vars0] at ho I ⊢
  walk_at "run"
  refine ⟨by simp, fun ab0 hab0 => ?_⟩
  walk_at "stp"
  refine for_ I.room.1 (fun _ => .list ls (sy.map V.str)) (fun _ => I4 ks F N sy lf ln)
      ?_ (fun _ i m σ h => .inr q1) (fun v i m σ u hI hu val hval Qz hQz => ?_) (fun _ m σ hI => ?_)
  · walk_at "run"
    exact ⟨⟨rfl, .inr q1⟩, ab0, [], by walk_at "vlook", by walk_at "vlook", by walk_at "vlook", upd_self, Canon.nil, by simp, fun _ h => by simp at h⟩
  · obtain ⟨ab, bg, v1, v2, v3, o1, hC, hbg, hV⟩ := hI
    obtain ⟨x, hx, rfl⟩ := map_get hu
    have hxm : x ∈ sy := List.mem_of_getElem? hx
    have hsplit : sy = sy.take i ++ x :: sy.drop (i + 1) := by rw [← drop_get hx, List.take_append_drop]
    have hbgU : bg.length ≤ 29 := Nat.le_trans (hC.le (U := U) fun y hy => by
      obtain ⟨z, hz, q⟩ := (hbg y).mp hy
      exact hF z (hV z hz).1 y q) hU
    refine asg_local ho (by rfl) hval ?_
    walk_at "run"
    walk_at "op"
    refine ⟨_, rfl, fun hb => ?_, fun hb => ?_⟩
    · have hk : x ∉ ks := fun hk => by
        obtain ⟨l, e, _⟩ := q3 x hk
        rw [e] at hb; cases hb
      walk_at "run"
      refine call_def I (by rfl) (M.fn hM.p 1 (by rfl)) ?_
      walk_at "run"
      refine ⟨by simp, fun r hr => ?_⟩
      walk_at "run"
      refine ⟨_, _, _, spec_merged M hM bg [x] ab r (by simp; omega), by decide, ⟨.inl (upd_new hr o1), .inl upd_self⟩, fun v σ₂ hext hR => ?_⟩
      obtain ⟨r', u, rfl, e1, hCu, hu⟩ := hR
      walk_at "run"
      refine ⟨by simp, fun t ht => hQz.go <| hQf.go <| ⟨_, rfl, t, r', u, false, rfl, upd_self, upd_new ht e1, hCu, fun y => ?_, ?_⟩⟩
      · rw [hsplit, FSk_append hV, hu, hbg, List.mem_singleton, FSk]
        constructor
        · rintro (q | q)
          · exact .inl q
          · exact .inr (.inr ⟨hk, q⟩)
        · rintro (q | ⟨q, _⟩ | ⟨_, q⟩)
          · exact .inl q
          · exact absurd q hk
          · exact .inr q
      · simp only [Bool.false_eq_true, false_iff]
        exact fun h => hk (h x hxm).1
    · have hk : x ∈ ks := Classical.byContradiction fun hk => by rw [q4 x hk] at hb; cases hb
      obtain ⟨l, e1, e2⟩ := q3 x hk
      walk_at "stp"
      walk_at "stp"
      walk_at "stp"
      refine call_def I (by rfl) (M.fn hM.p 1 (by rfl)) ?_
      walk_at "run"
      walk_at "op"
      walk_at "run"
      have hFx := hFl x hk
      refine ⟨_, _, _, spec_merged M hM bg (F x) ab l (by omega), by decide, ⟨.inl o1, .inr e2⟩, fun v σ₂ hext hR => ?_⟩
      obtain ⟨r', u, rfl, e3, hCu, hu⟩ := hR
      have hu' : ∀ y, y ∈ u ↔ ∃ z ∈ sy.take (i + 1), y ∈ F z := fun y => by
        rw [hu, hbg, take_succ_get hx]
        simp only [List.mem_append, List.mem_singleton]
        constructor
        · rintro (⟨z, hz, q⟩ | q)
          · exact ⟨z, .inl hz, q⟩
          · exact ⟨x, .inr rfl, q⟩
        · rintro ⟨z, hz | rfl, q⟩
          · exact .inl ⟨z, hz, q⟩
          · exact .inr q
      walk_at "run"
      walk_at "op"
      refine ⟨_, rfl, fun hn => ?_, fun hn => ?_⟩
      · have hn : x ∉ N := by simpa using hn
        walk_at "run"
        refine ⟨by simp, fun t ht => hQz.go <| hQf.go <| ⟨_, rfl, t, r', u, false, rfl, upd_self, upd_new ht e3, hCu, fun y => ?_, ?_⟩⟩
        · rw [hsplit, FSk_append hV, hu, hbg, FSk]
          constructor
          · rintro (q | q)
            · exact .inl q
            · exact .inr (.inl ⟨hk, .inl q⟩)
          · rintro (q | ⟨_, q | ⟨q, _⟩⟩ | ⟨q, _⟩)
            · exact .inl q
            · exact .inr q
            · exact absurd q hn
            · exact absurd hk q
        · simp only [Bool.false_eq_true, false_iff]
          exact fun h => hn (h x hxm).2
      · have hn : x ∈ N := by simpa using hn
        walk_at "run"
        refine ⟨r', u, by walk_at "vlook", by walk_at "vlook", by walk_at "vlook", e3, hCu, hu', fun z hz => ?_⟩
        rw [take_succ_get hx] at hz
        rcases List.mem_append.mp hz with q | q
        · exact hV z q
        · rw [List.mem_singleton.mp q]; exact ⟨hk, hn⟩
  · obtain ⟨ab, bg, v1, v2, v3, o1, hC, hbg, hV⟩ := hI
    have hlen : (Src.list ls (sy.map V.str)).items.length = sy.length := by simp [Src.items]
    rw [hlen, List.take_length] at hbg hV
    walk_at "run"
    refine ⟨by simp, fun t ht => hQf.go <| ⟨_, rfl, t, ab, bg, true, rfl, upd_self, upd_new ht o1, hC, fun y => ?_, ?_⟩⟩
    · have := FSk_append (b := []) (F := F) (y := y) hV
      rw [List.append_nil] at this
      rw [hbg, this, FSk]; simp
    · simp only [true_iff]; exact hV

theorem headsOf_spec (g : G) : (headsOf g).Nodup ∧ ∀ x, x ∈ headsOf g ↔ IsHead g x := by
  have key : ∀ (g : G) (hs : List Str), hs.Nodup → (g.foldl (fun hs r => if r.1 ∈ hs then hs else hs ++ [r.1]) hs).Nodup ∧ ∀ x, x ∈ g.foldl (fun hs r => if r.1 ∈ hs then hs else hs ++ [r.1]) hs ↔ x ∈ hs ∨ IsHead g x := by
    intro g
    induction g with
    | nil => intro hs h; exact ⟨h, fun x => ⟨.inl, fun q => q.elim id fun ⟨_, q⟩ => nomatch q⟩⟩
    | cons r g ih =>
      intro hs h
      rw [List.foldl_cons]
      have hh : ∀ x, IsHead (r :: g) x ↔ x = r.1 ∨ IsHead g x := fun x => by
        constructor
        · rintro ⟨b, hb⟩
          rcases List.mem_cons.mp hb with q | q
          · exact .inl (by rw [← q])
          · exact .inr ⟨b, q⟩
        · rintro (rfl | ⟨b, hb⟩)
          · exact ⟨r.2, List.mem_cons_self⟩
          · exact ⟨b, List.mem_cons_of_mem _ hb⟩
      by_cases hr : r.1 ∈ hs
      · rw [if_pos hr]
        obtain ⟨h1, h2⟩ := ih hs h
        refine ⟨h1, fun x => ?_⟩
        rw [h2, hh]
        constructor
        · rintro (q | q)
          · exact .inl q
          · exact .inr (.inr q)
        · rintro (q | rfl | q)
          · exact .inl q
          · exact .inl hr
          · exact .inr q
      · rw [if_neg hr]
        have hn : (hs ++ [r.1]).Nodup := by
          rw [List.nodup_append]
          refine ⟨h, by simp, ?_⟩
          intro a ha b hb
          rw [List.mem_singleton] at hb
          subst hb
          exact fun e => hr (e ▸ ha)
        obtain ⟨h1, h2⟩ := ih _ hn
        refine ⟨h1, fun x => ?_⟩
        rw [h2, hh, List.mem_append, List.mem_singleton, or_assoc]
  obtain ⟨h1, h2⟩ := key g [] .nil
  refine ⟨h1, fun x => ?_⟩
  rw [headsOf, h2]; simp

abbrev dol : Str := Str.ofString "$"
def symsOf (g : G) : List Str := g.flatMap fun x => x.1 :: x.2
/-- every symbol, and the end mark -/
def univ (g : G) : List Str := dol :: symsOf g
theorem univ_body {g : G} {x : Str × List Str} (h : x ∈ g) : ∀ y ∈ x.2, y ∈ univ g := fun y hy => List.mem_cons_of_mem _ (List.mem_flatMap.mpr ⟨x, h, List.mem_cons_of_mem _ hy⟩)
theorem body_len {g : G} {x : Str × List Str} (h : x ∈ g) : x.2.length + 1 ≤ (symsOf g).length := by
  induction g with
  | nil => cases h
  | cons y g ih =>
    simp only [symsOf, List.flatMap_cons, List.length_append, List.length_cons]
    rcases List.mem_cons.mp h with rfl | h
    · omega
    · have := ih h
      simp only [symsOf] at this
      omega
theorem syms_len (g : G) : g.length ≤ (symsOf g).length := by
  induction g with
  | nil => exact Nat.le_refl _
  | cons y g ih =>
    simp only [symsOf, List.flatMap_cons, List.length_append, List.length_cons] at ih ⊢
    omega

theorem own_new {σ : Hp} {r : Addr} {o : O} (h : σ r = none) : ∀ a o', own σ a o' → own (upd σ r o) a o' := fun a o' e => upd_new h e

theorem addKey_mem {ks : List Str} {k x : Str} : x ∈ addKey ks k ↔ x ∈ ks ∨ x = k := by
  unfold addKey
  split
  · rename_i h
    constructor
    · exact .inl
    · rintro (q | rfl)
      · exact q
      · exact h
  · simp
theorem addKey_old {ks : List Str} {k : Str} (h : k ∈ ks) : addKey ks k = ks := if_pos h
theorem addKey_new {ks : List Str} {k : Str} (h : k ∉ ks) : addKey ks k = ks ++ [k] := if_neg h

theorem DictP.set {σ : Hp} {lf : Addr} {ks : List Str} {f : Str → Option V} {F : Str → List Str} {k : Str} {l : Addr} {u : List Str} (h1 : σ lf = some (.dict ks f)) (h2 : ∀ k, k ∈ ks → ∃ l, f k = some (.ref l) ∧ StrL (own σ) l (F k)) (h3 : ∀ k, k ∉ ks → f k = none)
    (hl : σ l = some (.list (u.map V.str))) : DictP (own (upd σ lf (.dict (addKey ks k) (upd f k (.ref l))))) lf (addKey ks k) (fun x => if x = k then u else F x) := by
  have other : ∀ l' (u' : List Str), σ l' = some (.list (u'.map V.str)) → upd σ lf (.dict (addKey ks k) (upd f k (.ref l))) l' = some (.list (u'.map V.str)) := fun l' u' e => upd_ne (fun q => by rw [q, h1] at e; cases e) e
  refine ⟨_, upd_self, fun x hx => ?_, fun x hx => ?_⟩
  · by_cases hxk : x = k
    · subst hxk
      exact ⟨l, upd_self, by simp only [if_true]; exact other l u hl⟩
    · obtain ⟨l', e1, e2⟩ := h2 x ((addKey_mem.mp hx).resolve_right hxk)
      exact ⟨l', upd_ne hxk e1, by simp only [hxk, if_false]; exact other l' _ e2⟩
  · rw [addKey_mem] at hx
    exact upd_ne (fun q => hx (.inr q)) (h3 x fun q => hx (.inl q))

def tot (ks : List Str) (F : Str → List Str) : Nat := (ks.map fun k => (F k).length).sum
theorem tot_le {ks : List Str} {F : Str → List Str} {b : Nat} (h : ∀ k ∈ ks, (F k).length ≤ b) : tot ks F ≤ ks.length * b := by
  induction ks with
  | nil => simp [tot]
  | cons k ks ih =>
    have h1 := h k List.mem_cons_self
    have h2 := ih fun x hx => h x (List.mem_cons_of_mem _ hx)
    simp only [tot, List.map_cons, List.sum_cons, List.length_cons, Nat.add_mul, Nat.one_mul] at h2 ⊢
    omega
theorem tot_lt {ks : List Str} {F F' : Str → List Str} (h : ∀ k ∈ ks, (F k).length ≤ (F' k).length) (hx : ∃ k ∈ ks, (F k).length < (F' k).length) : tot ks F < tot ks F' := by
  have le : ∀ ks : List Str, (∀ k ∈ ks, (F k).length ≤ (F' k).length) → tot ks F ≤ tot ks F' := by
    intro ks
    induction ks with
    | nil => intro _; exact Nat.le_refl _
    | cons k ks ih =>
      intro h
      have h1 := h k List.mem_cons_self
      have h2 := ih fun x hx => h x (List.mem_cons_of_mem _ hx)
      simp only [tot, List.map_cons, List.sum_cons] at h2 ⊢
      omega
  induction ks with
  | nil => obtain ⟨_, q, _⟩ := hx; cases q
  | cons k ks ih =>
    have h1 := h k List.mem_cons_self
    have h2 : ∀ x ∈ ks, (F x).length ≤ (F' x).length := fun x hx => h x (List.mem_cons_of_mem _ hx)
    obtain ⟨z, hz, hlt⟩ := hx
    rcases List.mem_cons.mp hz with rfl | hz
    · have := le ks h2
      simp only [tot, List.map_cons, List.sum_cons] at this ⊢
      omega
    · have := ih h2 ⟨z, hz, hlt⟩
      simp only [tot, List.map_cons, List.sum_cons] at this ⊢
      omega

theorem FSt_mono {g : G} {N : Str → Prop} {A B : Str → Str → Prop} (h : ∀ x, IsHead g x → ∀ y, A x y → B x y) {r : List Str} {y : Str} (q : FSt g N A r y) : FSt g N B r y := by
  induction r with
  | nil => exact q
  | cons x r ih =>
    rcases q with ⟨h1, h2 | ⟨h3, h4⟩⟩ | q
    · exact .inl ⟨h1, .inl (h x h1 y h2)⟩
    · exact .inl ⟨h1, .inr ⟨h3, ih h4⟩⟩
    · exact .inr q
theorem FSk_iff {g : G} {F : Str → List Str} {N r : List Str} {y : Str} : FSk (headsOf g) F N r y ↔ FSt g (· ∈ N) (fun x y => y ∈ F x) r y := by
  induction r with
  | nil => exact Iff.rfl
  | cons x r ih =>
    have hx := (headsOf_spec g).2 x
    show (_ ∨ _) ↔ (_ ∨ _)
    rw [hx, ih]
theorem Vk_iff {g : G} {N r : List Str} : Vk (headsOf g) N r ↔ Van g (· ∈ N) r := by
  constructor
  · exact fun h x hx => ⟨((headsOf_spec g).2 x).mp (h x hx).1, (h x hx).2⟩
  · exact fun h x hx => ⟨((headsOf_spec g).2 x).mpr (h x hx).1, (h x hx).2⟩

/-- first sets, so far: sound -/
structure FSound (g : G) (N : List Str) (F : Str → List Str) : Prop where
  canon : ∀ k ∈ headsOf g, Canon (F k)
  inU : ∀ k ∈ headsOf g, ∀ y ∈ F k, y ∈ univ g
  least : ∀ A : Str → Str → Prop, (∀ h r y, (h, r) ∈ g → FSt g (· ∈ N) A r y → A h y) → ∀ k ∈ headsOf g, ∀ y ∈ F k, A k y
def FClosed (g : G) (N : List Str) (F : Str → List Str) : Prop := ∀ h r y, (h, r) ∈ g → FSt g (· ∈ N) (fun x y => y ∈ F x) r y → y ∈ F h
def FirstsOf (g : G) (F : Str → List Str) : Prop := ∃ N, NullOf g N ∧ FSound g N F ∧ FClosed g N F
theorem FSound.len {g : G} {N : List Str} {F : Str → List Str} (h : FSound g N F) (hg : (symsOf g).length ≤ 28) : ∀ k ∈ headsOf g, (F k).length ≤ 29 := fun k hk => by
  have := (h.canon k hk).le (h.inU k hk)
  simp only [univ, List.length_cons] at this
  omega

inductive I5b (g : G) (N : List Str) (ag ln lf : Addr) (k : Nat) (m : Vars) (σ : Hp) : Prop
  | mk (F : Str → List Str) (ch : Bool) (h1 : m (Str.ofString "g") = some (.ref ag)) (h2 : m (Str.ofString "nullables") = some (.ref ln)) (h3 : m (Str.ofString "firsts") = some (.ref lf)) (h4 : m (Str.ofString "changed") = some (.bool ch)) (h5 : σ ln = some (.list (N.map V.str))) (h6 : DictP (own σ) lf (headsOf g) F) (h7 : FSound g N F) (h8 : ch = true → k = (headsOf g).length * 29 - tot (headsOf g) F + 1) (h9 : ch = false → FClosed g N F)
inductive I5c (g : G) (N : List Str) (ag ln lf : Addr) (F : Str → List Str) (i : Nat) (m : Vars) (σ : Hp) : Prop
  | mk (F' : Str → List Str) (ch : Bool) (h1 : m (Str.ofString "g") = some (.ref ag)) (h2 : m (Str.ofString "nullables") = some (.ref ln)) (h3 : m (Str.ofString "firsts") = some (.ref lf)) (h4 : m (Str.ofString "changed") = some (.bool ch)) (h5 : σ ln = some (.list (N.map V.str))) (h6 : DictP (own σ) lf (headsOf g) F') (h7 : FSound g N F') (h8 : ch = true → tot (headsOf g) F < tot (headsOf g) F') (h9 : ch = false → F' = F ∧ ∀ x ∈ g.take i, ∀ y, FSt g (· ∈ N) (fun x y => y ∈ F x) x.2 y → y ∈ F x.1)
theorem spec_first_sets (M : Mod) (hM : Ok M) (g : G) (ag : Addr) (hg : (symsOf g).length ≤ 28) :
    Spec M 4 (Str.ofString "first_sets") [.ref ag] (fun P => GramP P ag g) (fun v P => ∃ a F, v = .ref a ∧ DictP P a (headsOf g) F ∧ FirstsOf g F) := by
  have hgl : g.length ≤ 28 := Nat.le_trans (syms_len g) hg
  have hgb : ∀ x ∈ g, x.2.length ≤ 1000 := fun x hx => by have := body_len hx; omega
  have hhl := headsOf_len g
  obtain ⟨hnd, hmem⟩ := headsOf_spec g
  refine mkSpec hM.p 5 [Str.ofString "g"] (by rfl) (by decide) (by decide) (by decide) (fun vals pm code doc h => by obtain ⟨a, rfl, _⟩ := one_val h; rfl) (by rfl) (by rfl) (by rfl) ?_ ?_ fun c L fa code I hpre Qf hQf => ?_
  · exact GramP.mono
  · rintro v A B h ⟨a, F, e, q, k⟩; exact ⟨a, F, e, DictP.mono A B h q, k⟩
  have ho := I.env
  dsimp only [vars0] at ho I ⊢
  have hpre' := hpre
  obtain ⟨rs, q1, q2, q3⟩ := hpre
  have hgram : ∀ σ, GramP (Sees c σ) ag g := fun σ => GramP.mono _ _ (fun a o h => .inr h) hpre'
  walk_at "stp"
  walk_at "stp"
  refine call_def I (by rfl) (M.fn hM.p 3 (by rfl)) ?_
  walk_at "run"
  refine ⟨_, _, _, spec_nullable_heads M hM g ag (by omega) hgb, by decide, hgram _, fun v σ₁ _ hR => ?_⟩
  obtain ⟨ln, N, rfl, oN, hN⟩ := hR
  have oN : σ₁ ln = some (.list (N.map V.str)) := oN
  walk_at "stp"
  walk_at "stp"
  refine new_dict hM I fun lf hlf => ?_
  walk_at "stp"
  refine for_ I.room.1 (fun v => .list v.addr ((headsOf g).map V.str)) (fun v i m σ => And6 (m (Str.ofString "g") = some (.ref ag)) (m (Str.ofString "nullables") = some (.ref ln)) (m (Str.ofString "firsts") = some (.ref lf)) (σ v.addr = some (.list ((headsOf g).map V.str))) (σ ln = some (.list (N.map V.str))) (DictP (own σ) lf ((headsOf g).take i) (fun _ => [])))
      ?_ (fun _ i m σ h => .inl h.h4) (fun v i m σ u hI hu val hval Qz hQz => ?_) (fun v m σ hI => ?_)
  · refine call_def I (by rfl) (M.fn hM.p 0 (by rfl)) ?_
    walk_at "run"
    refine ⟨_, _, _, spec_heads_of M hM g ag (by omega), by decide, hgram _, fun v σ₂ hext hR => ?_⟩
    obtain ⟨lh, rfl, oh⟩ := hR
    exact ⟨⟨rfl, .inl oh⟩, by walk_at "vlook", by walk_at "vlook", by walk_at "vlook", oh, hext _ _ (upd_new hlf oN), _, hext _ _ upd_self, fun k hk => by simp at hk, fun k _ => rfl⟩
  · obtain ⟨v1, v2, v3, o1, o2, f, d1, d2, d3⟩ := hI
    obtain ⟨x, hx, rfl⟩ := map_get hu
    refine asg_local ho (by rfl) hval ?_
    walk_at "stp"
    refine assign_sub ?_ (by rfl)
    walk_at "run"
    refine ⟨by simp, fun l hl => ?_⟩
    walk_at "run"
    intro val oval ival e1 e2 e3
    have hxn : x ∉ (headsOf g).take i := fun hm => by
      have h1 := hnd
      rw [← List.take_append_drop i (headsOf g), drop_get hx, List.nodup_append] at h1
      exact h1.2.2 x hm x List.mem_cons_self rfl
    refine set_dict e2 e3 e1 (upd_new hl d1) (by have : ((headsOf g).take i).length ≤ (headsOf g).length := by rw [List.length_take]; exact Nat.min_le_right _ _
                                                 omega) ?_
    walk_at "run"
    have hlf' : lf ≠ l := ne_of_new hl d1
    refine ⟨by walk_at "vlook", by walk_at "vlook", by walk_at "vlook", upd_ne (fun q => by rw [q, d1] at o1; cases o1) (upd_new hl o1), upd_ne (fun q => by rw [q, d1] at o2; cases o2) (upd_new hl o2), ?_⟩
    have := DictP.set (σ := upd σ l (.list [])) (lf := lf) (k := x) (l := l) (u := []) (F := fun _ => []) (upd_new hl d1) (fun k hk => let ⟨l', q1, q2⟩ := d2 k hk; ⟨l', q1, upd_new hl q2⟩) d3 upd_self
    rw [addKey_new hxn] at this ⊢
    rw [take_succ_get hx]
    simpa using this
  · obtain ⟨v1, v2, v3, o1, o2, hD⟩ := hI
    have hlen : (Src.list v.addr ((headsOf g).map V.str)).items.length = (headsOf g).length := by simp [Src.items]
    rw [hlen, List.take_length] at hD
    walk_at "stp"
    walk_at "stp"
    walk_at "stp"
    walk_at "stp"
    refine while_ (I5b g N ag ln lf) _
      ⟨fun _ => [], true, by walk_at "vlook", by walk_at "vlook", by walk_at "vlook", by walk_at "vlook", o2, hD, ⟨fun _ _ => Canon.nil, fun _ _ _ h => (nomatch h), fun _ _ _ _ _ h => (nomatch h)⟩, fun _ => rfl, fun h => (nomatch h)⟩ (fun k m σ hI Qz hQz => ?_)
    clear v1 v2 v3 o1 o2 hD
    obtain ⟨F, ch, v1, v2, v3, v4, o2, hD, hS, hk1, hk2⟩ := hI
    walk_at "run"
    refine ⟨ch, rfl, fun hch => ?_, fun hch => ?_⟩
    · subst hch
      have hk1 := hk1 rfl
      walk_at "stp"
      walk_at "stp"
      walk_at "stp"
      walk_at "stp"
      refine for_ I.room.1 (fun _ => .list ag (rs.map V.ref)) (fun _ => I5c g N ag ln lf F)
        ?_ (fun _ i m σ _ => .inr q1) (fun _ i m σ u hI hu val hval Qz hQz => ?_) (fun _ m σ hI => ?_)
      · walk_at "stp"
        exact ⟨⟨rfl, .inr q1⟩, F, false, by walk_at "vlook", by walk_at "vlook", by walk_at "vlook", by walk_at "vlook", o2, hD, hS, fun h => (nomatch h), fun _ => ⟨rfl, fun _ h => by simp at h⟩⟩
      · obtain ⟨F', ch, v1, v2, v3, v4, o2, hD', hS', j1, j2⟩ := hI
        obtain ⟨r, hr, rfl⟩ := map_get hu
        obtain ⟨⟨hd, bd⟩, hx⟩ := get_same q2 hr
        obtain ⟨b, k1, k2⟩ := q3 i r _ hr hx
        have hmg : (hd, bd) ∈ g := List.mem_of_getElem? hx
        have hhd : hd ∈ headsOf g := (hmem hd).mpr ⟨bd, hmg⟩
        have hlen := hS'.len hg
        obtain ⟨f, d1, d2, d3⟩ := hD'
        obtain ⟨l, e1, e2⟩ := d2 hd hhd
        have e2 : σ l = some (.list ((F' hd).map V.str)) := e2
        have hD' : DictP (own σ) lf (headsOf g) F' := ⟨f, d1, d2, d3⟩
        refine asg_local ho (by rfl) hval ?_
        walk_at "stp"
        walk_at "stp"
        refine call_def I (by rfl) (M.fn hM.p 1 (by rfl)) ?_
        walk_at "run"
        walk_at "op"
        have hfs : own σ lf (.dict (headsOf g) f) := d1
        refine sub_dict (.inl d1) e1 ?_
        walk_at "stp"
        walk_at "stp"
        refine call_def I (by rfl) (M.fn hM.p 4 (by rfl)) ?_
        walk_at "run"
        walk_at "op"
        walk_at "run"
        refine ⟨_, _, _, spec_first_of_string M hM (headsOf g) F' N bd (univ g) b lf ln (by simp [univ]; omega) (univ_body hmg) hS'.inU hlen, by decide, ⟨.inr k2, DictP.mono _ _ (fun a o h => .inl h) hD', .inl o2⟩, fun v σ₂ hext hR => ?_⟩
        obtain ⟨t, r1, u1, bb, rfl, t1, t2, hCu, hu1, _⟩ := hR
        have t1 : σ₂ t = some (.tuple [.ref r1, .bool bb]) := t1
        have t2 : σ₂ r1 = some (.list (u1.map V.str)) := t2
        walk_at "run"
        walk_at "op"
        walk_at "run"
        refine ⟨_, _, _, spec_merged M hM (F' hd) u1 l r1 ?_, by decide, ⟨.inl (hext _ _ e2), .inl t2⟩, fun v σ₃ hext3 hR => ?_⟩
        · have h1 := hlen hd hhd
          have h2 := hCu.le (U := univ g) fun y hy => FSk_in (univ_body hmg) hS'.inU ((hu1 y).mp hy)
          simp only [univ, List.length_cons] at h2
          omega
        obtain ⟨lg, gr, rfl, g1, hCg, hgr⟩ := hR
        have g1 : σ₃ lg = some (.list (gr.map V.str)) := g1
        have hup : ∀ a o, σ a = some o → σ₃ a = some o := fun a o h => hext3 _ _ (hext _ _ h)
        have d1' := hup _ _ d1
        have e2' := hup _ _ e2
        have o2' := hup _ _ o2
        have hgr' : ∀ y, y ∈ gr ↔ y ∈ F' hd ∨ FSt g (· ∈ N) (fun x y => y ∈ F' x) bd y := fun y => by rw [hgr, hu1, FSk_iff]
        walk_at "run"
        walk_at "op"
        refine sub_dict (.inl d1') e1 ?_
        refine op_ne_strs I.room.units (.inl g1) (.inl e2') ⟨_, rfl, fun hne => ?_, fun hne => ?_⟩
        · have hne : gr ≠ F' hd := by simpa using hne
          walk_at "stp"
          refine assign_sub ?_ (by rfl)
          walk_at "run"
          walk_at "op"
          intro val oval ival w1 w2 w3
          refine set_dict w2 w3 w1 d1' (by omega) ?_
          walk_at "run"
          have hset := DictP.set (σ := σ₃) (k := hd) (F := F') d1' (fun k hk => let ⟨l', q1, q2⟩ := d2 k hk; ⟨l', q1, hup _ _ q2⟩) d3 g1
          rw [addKey_old hhd] at hset ⊢
          have hln : ln ≠ lf := fun q => by rw [q, d1'] at o2'; cases o2'
          have hgrow : ∀ y, y ∈ F' hd → y ∈ gr := fun y hy => (hgr' y).mpr (.inl hy)
          have hlt := (hS'.canon hd hhd).grows hCg hgrow hne
          refine ⟨fun x => if x = hd then gr else F' x, true, by walk_at "vlook", by walk_at "vlook", by walk_at "vlook", by walk_at "vlook", upd_ne hln o2', hset, ⟨fun k hk => ?_, fun k hk y hy => ?_, fun A hA k hk y hy => ?_⟩, fun _ => ?_, fun h => (nomatch h)⟩
          · by_cases e : k = hd
            · simp only [e, if_true]; exact hCg
            · simp only [e, if_false]; exact hS'.canon k hk
          · by_cases e : k = hd
            · simp only [e, if_true] at hy
              rcases (hgr y).mp hy with q | q
              · exact hS'.inU hd hhd y q
              · exact FSk_in (univ_body hmg) hS'.inU ((hu1 y).mp q)
            · simp only [e, if_false] at hy; exact hS'.inU k hk y hy
          · by_cases e : k = hd
            · simp only [e, if_true] at hy ⊢
              rcases (hgr' y).mp hy with q | q
              · exact hS'.least A hA hd hhd y q
              · exact hA hd bd y hmg (FSt_mono (fun x hx y hy => hS'.least A hA x ((hmem x).mpr hx) y hy) q)
            · simp only [e, if_false] at hy; exact hS'.least A hA k hk y hy
          · have hl2 : tot (headsOf g) F' < tot (headsOf g) (fun x => if x = hd then gr else F' x) := tot_lt (fun k hk => by
              by_cases e : k = hd
              · simp only [e, if_true]; omega
              · simp only [e, if_false]; omega) ⟨hd, hhd, by simp only [if_true]; exact hlt⟩
            cases ch with
            | true => exact Nat.lt_trans (j1 rfl) hl2
            | false => rw [← (j2 rfl).1]; exact hl2
        · have hne : gr = F' hd := by simpa using hne
          walk_at "run"
          refine ⟨F', ch, by walk_at "vlook", by walk_at "vlook", by walk_at "vlook", by walk_at "vlook", o2', DictP.mono _ _ (fun a o h => hup a o h) hD', hS', j1, fun h => ⟨(j2 h).1, fun x hx' y hy => ?_⟩⟩
          rw [take_succ_get hx] at hx'
          rcases List.mem_append.mp hx' with q | q
          · exact (j2 h).2 x q y hy
          · obtain rfl := List.mem_singleton.mp q
            rw [← (j2 h).1] at hy ⊢
            show y ∈ F' hd
            rw [← hne]
            exact (hgr' y).mpr (.inr hy)
      · obtain ⟨F', ch, v1, v2, v3, v4, o2, hD', hS', j1, j2⟩ := hI
        have hlen : (Src.list ag (rs.map V.ref)).items.length = g.length := by simp [Src.items, q2]
        rw [hlen, List.take_length] at j2
        walk_at "run"
        have l1 := tot_le (hS'.len hg)
        refine ⟨if ch then (headsOf g).length * 29 - tot (headsOf g) F' + 1 else 0, ?_, F', ch, v1, v2, v3, v4, o2, hD', hS', fun h => by simp [h], fun h x r y hr hb => ?_⟩
        · cases ch with
          | true => have := j1 rfl; simp; omega
          | false => simp; omega
        · obtain ⟨e, hcl⟩ := j2 h
          rw [e] at hb ⊢
          exact hcl (x, r) hr y hb
    · subst hch
      walk_at "run"
      exact ⟨_, rfl, lf, F, rfl, hD, N, hN, hS, hk2 rfl⟩

/-- what may follow, so far: sound -/
structure WOk (g : G) (N : List Str) (F : Str → List Str) (st : Str) (A : Str → Str → Prop) : Prop where
  w0 : A st dol
  w1 : ∀ h a x b y, (h, a ++ x :: b) ∈ g → IsHead g x → FSt g (· ∈ N) (fun x y => y ∈ F x) b y → A x y
  w2 : ∀ h a x b y, (h, a ++ x :: b) ∈ g → IsHead g x → Van g (· ∈ N) b → A h y → A x y
structure WSound (g : G) (N : List Str) (F : Str → List Str) (st : Str) (W : Str → List Str) : Prop where
  canon : ∀ k ∈ headsOf g, Canon (W k)
  inU : ∀ k ∈ headsOf g, ∀ y ∈ W k, y ∈ univ g
  least : ∀ A : Str → Str → Prop, WOk g N F st A → ∀ k ∈ headsOf g, ∀ y ∈ W k, A k y
theorem WSound.len {g : G} {N : List Str} {F W : Str → List Str} {st : Str} (h : WSound g N F st W) (hg : (symsOf g).length ≤ 28) : ∀ k ∈ headsOf g, (W k).length ≤ 29 := fun k hk => by
  have := (h.canon k hk).le (h.inU k hk)
  simp only [univ, List.length_cons] at this
  omega
def Sat (g : G) (N : List Str) (F W : Str → List Str) (x : Str × List Str) (p : Nat) : Prop :=
  ∀ z, x.2[p]? = some z → IsHead g z → (∀ y, FSt g (· ∈ N) (fun x y => y ∈ F x) (x.2.drop (p + 1)) y → y ∈ W z) ∧ (Van g (· ∈ N) (x.2.drop (p + 1)) → ∀ y ∈ W x.1, y ∈ W z)
def FollowsOf (g : G) (st : Str) (W : Str → List Str) : Prop := ∃ N F, NullOf g N ∧ FSound g N F ∧ FClosed g N F ∧ WSound g N F st W ∧ WOk g N F st (fun x y => y ∈ W x)
theorem wok_of_sat {g : G} {N : List Str} {F W : Str → List Str} {st : Str} (h0 : dol ∈ W st) (h : ∀ x ∈ g, ∀ p, Sat g N F W x p) : WOk g N F st (fun x y => y ∈ W x) := by
  have at_ : ∀ (a : List Str) x b, (a ++ x :: b)[a.length]? = some x ∧ (a ++ x :: b).drop (a.length + 1) = b := fun a x b => by
    constructor
    · simp
    · rw [← List.drop_drop]; simp
  refine ⟨h0, fun h' a x b y hm hx hy => ?_, fun h' a x b y hm hx hv hy => ?_⟩
  · have := h _ hm a.length x (at_ a x b).1 hx
    simp only [(at_ a x b).2] at this
    exact this.1 y hy
  · have := h _ hm a.length x (at_ a x b).1 hx
    simp only [(at_ a x b).2] at this
    exact this.2 hv y hy

inductive I6b (g : G) (st : Str) (N : List Str) (F : Str → List Str) (ag ln lf lw : Addr) (k : Nat) (m : Vars) (σ : Hp) : Prop
  | mk (W : Str → List Str) (ch : Bool) (h1 : m (Str.ofString "g") = some (.ref ag)) (h2 : m (Str.ofString "nullables") = some (.ref ln)) (h3 : m (Str.ofString "firsts") = some (.ref lf)) (h4 : m (Str.ofString "follows") = some (.ref lw)) (h5 : m (Str.ofString "changed") = some (.bool ch)) (h6 : σ ln = some (.list (N.map V.str))) (h7 : DictP (own σ) lf (headsOf g) F) (h8 : DictP (own σ) lw (headsOf g) W) (h9 : WSound g N F st W) (h10 : dol ∈ W st) (h11 : ch = true → k = (headsOf g).length * 29 - tot (headsOf g) W + 1) (h12 : ch = false → ∀ x ∈ g, ∀ p, Sat g N F W x p)
inductive I6c (g : G) (st : Str) (N : List Str) (F : Str → List Str) (ag ln lf lw : Addr) (W : Str → List Str) (i : Nat) (m : Vars) (σ : Hp) : Prop
  | mk (W' : Str → List Str) (ch : Bool) (h1 : m (Str.ofString "g") = some (.ref ag)) (h2 : m (Str.ofString "nullables") = some (.ref ln)) (h3 : m (Str.ofString "firsts") = some (.ref lf)) (h4 : m (Str.ofString "follows") = some (.ref lw)) (h5 : m (Str.ofString "changed") = some (.bool ch)) (h6 : σ ln = some (.list (N.map V.str))) (h7 : DictP (own σ) lf (headsOf g) F) (h8 : DictP (own σ) lw (headsOf g) W') (h9 : WSound g N F st W') (h10 : dol ∈ W' st) (h11 : ch = true → tot (headsOf g) W < tot (headsOf g) W') (h12 : ch = false → W' = W ∧ ∀ x ∈ g.take i, ∀ p, Sat g N F W x p)
inductive I6d (g : G) (st : Str) (N : List Str) (F : Str → List Str) (ag ln lf lw : Addr) (W : Str → List Str) (i : Nat) (r : Addr) (hd : Str) (bd : List Str) (p : Nat) (m : Vars) (σ : Hp) : Prop
  | mk (W' : Str → List Str) (ch : Bool) (h1 : m (Str.ofString "g") = some (.ref ag)) (h2 : m (Str.ofString "nullables") = some (.ref ln)) (h3 : m (Str.ofString "firsts") = some (.ref lf)) (h4 : m (Str.ofString "follows") = some (.ref lw)) (h0 : m (Str.ofString "rule") = some (.ref r)) (h5 : m (Str.ofString "changed") = some (.bool ch)) (h6 : σ ln = some (.list (N.map V.str))) (h7 : DictP (own σ) lf (headsOf g) F) (h8 : DictP (own σ) lw (headsOf g) W') (h9 : WSound g N F st W') (h10 : dol ∈ W' st) (h11 : ch = true → tot (headsOf g) W < tot (headsOf g) W') (h12 : ch = false → W' = W ∧ (∀ x ∈ g.take i, ∀ p, Sat g N F W x p) ∧ ∀ p', p' < p → Sat g N F W (hd, bd) p')
theorem spec_follow_sets (M : Mod) (hM : Ok M) (st : Str) (b0 : List Str) (g' : G) (ag : Addr) (hg : (symsOf ((st, b0) :: g')).length ≤ 28) :
    Spec M 5 (Str.ofString "follow_sets") [.ref ag] (fun P => GramP P ag ((st, b0) :: g')) (fun v P => ∃ a W, v = .ref a ∧ DictP P a (headsOf ((st, b0) :: g')) W ∧ FollowsOf ((st, b0) :: g') st W) := by
  generalize hge : (st, b0) :: g' = g at hg ⊢
  have hg0 : g[0]? = some (st, b0) := by rw [← hge]; rfl
  have hgl : g.length ≤ 28 := Nat.le_trans (syms_len g) hg
  have hgb : ∀ x ∈ g, x.2.length ≤ 1000 := fun x hx => by have := body_len hx; omega
  have hhl := headsOf_len g
  obtain ⟨hnd, hmem⟩ := headsOf_spec g
  have hsth : st ∈ headsOf g := (hmem st).mpr ⟨b0, List.mem_of_getElem? hg0⟩
  refine mkSpec hM.p 6 [Str.ofString "g"] (by rfl) (by decide) (by decide) (by decide) (fun vals pm code doc h => by obtain ⟨a, rfl, _⟩ := one_val h; rfl) (by rfl) (by rfl) (by rfl) ?_ ?_ fun c L fa code I hpre Qf hQf => ?_
  · exact GramP.mono
  · rintro v A B h ⟨a, F, e, q, k⟩; exact ⟨a, F, e, DictP.mono A B h q, k⟩
  have ho := I.env
  dsimp only [vars0] at ho I ⊢
  have hpre' := hpre
  obtain ⟨rs, q1, q2, q3⟩ := hpre
  have hgram : ∀ σ, GramP (Sees c σ) ag g := fun σ => GramP.mono _ _ (fun a o h => .inr h) hpre'
  walk_at "stp"
  walk_at "stp"
  refine call_def I (by rfl) (M.fn hM.p 3 (by rfl)) ?_
  walk_at "run"
  refine ⟨_, _, _, spec_nullable_heads M hM g ag (by omega) hgb, by decide, hgram _, fun v σ₁ _ hR => ?_⟩
  obtain ⟨ln, N, rfl, oN, hN⟩ := hR
  have oN : σ₁ ln = some (.list (N.map V.str)) := oN
  walk_at "stp"
  walk_at "stp"
  refine call_def I (by rfl) (M.fn hM.p 5 (by rfl)) ?_
  walk_at "run"
  refine ⟨_, _, _, spec_first_sets M hM g ag hg, by decide, hgram _, fun v σ₂ hx2 hR => ?_⟩
  obtain ⟨lf, F, rfl, hDF, N', hN', hFS, hFC⟩ := hR
  have eN : ∀ x, x ∈ N' ↔ x ∈ N := fun x => ⟨fun h => hN'.1.least _ hN.2 x h, fun h => hN.1.least _ hN'.2 x h⟩
  have eN' : (fun x => x ∈ N') = (fun x => x ∈ N) := funext fun x => propext (eN x)
  have hFS : FSound g N F := ⟨hFS.canon, hFS.inU, fun A hA => hFS.least A (fun h r y hm hy => hA h r y hm (by rw [← eN']; exact hy))⟩
  have hFC : FClosed g N F := fun h r y hm hy => hFC h r y hm (by rw [eN']; exact hy)
  have oN := hx2 _ _ oN
  walk_at "stp"
  walk_at "stp"
  refine new_dict hM I fun lw hlw => ?_
  have hlfw : lf ≠ lw := let ⟨f, d1, _⟩ := hDF; ne_of_new hlw d1
  walk_at "stp"
  refine for_ I.room.1 (fun v => .list v.addr ((headsOf g).map V.str)) (fun v i m σ => And8 (m (Str.ofString "g") = some (.ref ag)) (m (Str.ofString "nullables") = some (.ref ln)) (m (Str.ofString "firsts") = some (.ref lf)) (m (Str.ofString "follows") = some (.ref lw)) (σ v.addr = some (.list ((headsOf g).map V.str))) (σ ln = some (.list (N.map V.str))) (DictP (own σ) lf (headsOf g) F) (DictP (own σ) lw ((headsOf g).take i) (fun _ => [])))
      ?_ (fun _ i m σ h => .inl h.h5) (fun v i m σ u hI hu val hval Qz hQz => ?_) (fun v m σ hI => ?_)
  · refine call_def I (by rfl) (M.fn hM.p 0 (by rfl)) ?_
    walk_at "run"
    refine ⟨_, _, _, spec_heads_of M hM g ag (by omega), by decide, hgram _, fun v σ₃ hext hR => ?_⟩
    obtain ⟨lh, rfl, oh⟩ := hR
    exact ⟨⟨rfl, .inl oh⟩, by walk_at "vlook", by walk_at "vlook", by walk_at "vlook", by walk_at "vlook", oh, hext _ _ (upd_new hlw oN), DictP.mono _ _ (fun a o h => hext a o (upd_new hlw h)) hDF, _, hext _ _ upd_self, fun k hk => by simp at hk, fun k _ => rfl⟩
  · obtain ⟨v1, v2, v3, v4, o1, o2, hDF', f, d1, d2, d3⟩ := hI
    obtain ⟨x, hx, rfl⟩ := map_get hu
    refine asg_local ho (by rfl) hval ?_
    walk_at "stp"
    refine assign_sub ?_ (by rfl)
    walk_at "run"
    refine ⟨by simp, fun l hl => ?_⟩
    walk_at "run"
    intro val oval ival e1 e2 e3
    have hxn : x ∉ (headsOf g).take i := fun hm => by
      have h1 := hnd
      rw [← List.take_append_drop i (headsOf g), drop_get hx, List.nodup_append] at h1
      exact h1.2.2 x hm x List.mem_cons_self rfl
    refine set_dict e2 e3 e1 (upd_new hl d1) (by have : ((headsOf g).take i).length ≤ (headsOf g).length := by rw [List.length_take]; exact Nat.min_le_right _ _
                                                 omega) ?_
    walk_at "run"
    obtain ⟨ff, k1, k2, k3⟩ := hDF'
    have k1 : σ lf = some (.dict (headsOf g) ff) := k1
    refine ⟨by walk_at "vlook", by walk_at "vlook", by walk_at "vlook", by walk_at "vlook", upd_ne (fun q => by rw [q, d1] at o1; cases o1) (upd_new hl o1), upd_ne (fun q => by rw [q, d1] at o2; cases o2) (upd_new hl o2), ?_, ?_⟩
    · refine ⟨ff, upd_ne hlfw (upd_new hl k1), fun k hk => ?_, k3⟩
      obtain ⟨l', w1, w2⟩ := k2 k hk
      have w2 : σ l' = some (.list ((F k).map V.str)) := w2
      exact ⟨l', w1, upd_ne (fun q => by rw [q, d1] at w2; cases w2) (upd_new hl w2)⟩
    · have := DictP.set (σ := upd σ l (.list [])) (lf := lw) (k := x) (l := l) (u := []) (F := fun _ => []) (upd_new hl d1) (fun k hk => let ⟨l', q1, q2⟩ := d2 k hk; ⟨l', q1, upd_new hl q2⟩) d3 upd_self
      rw [addKey_new hxn] at this ⊢
      rw [take_succ_get hx]
      simpa using this
  · obtain ⟨v1, v2, v3, v4, o1, o2, hDF', hDW⟩ := hI
    have hlen : (Src.list v.addr ((headsOf g).map V.str)).items.length = (headsOf g).length := by simp [Src.items]
    rw [hlen, List.take_length] at hDW
    obtain ⟨f, d1, d2, d3⟩ := hDW
    have d1 : σ lw = some (.dict (headsOf g) f) := d1
    obtain ⟨ff, k1, k2, k3⟩ := hDF'
    have k1 : σ lf = some (.dict (headsOf g) ff) := k1
    -- follows[g[0][0]] = ["$"]
    obtain ⟨r0, hr0⟩ := get_same q2.symm hg0
    obtain ⟨bb0, w1, w2⟩ := q3 0 r0 _ hr0 hg0
    have hrs0 : (rs.map V.ref)[(0 : Int).toNat]? = some (.ref r0) := by
      show (rs.map V.ref)[0]? = _
      rw [List.getElem?_map, hr0]; rfl
    walk_at "stp"
    refine assign_sub ?_ (by rfl)
    walk_at "run"
    refine ⟨by simp, fun l hl => ?_⟩
    walk_at "run"
    walk_at "op"
    walk_at "run"
    walk_at "op"
    intro val oval ival e1 e2 e3
    refine set_dict e2 e3 e1 (upd_new hl d1) (by omega) ?_
    rw [addKey_old hsth]
    have hW0 : DictP (own (upd (upd σ l (.list [V.str dol])) lw (.dict (headsOf g) (upd f st (.ref l))))) lw (headsOf g) (fun x => if x = st then [dol] else []) := by
      have := DictP.set (σ := upd σ l (.list [V.str dol])) (lf := lw) (k := st) (l := l) (u := [dol]) (F := fun _ => []) (upd_new hl d1) (fun k hk => let ⟨l', q1, q2⟩ := d2 k hk; ⟨l', q1, upd_new hl q2⟩) d3 upd_self
      rwa [addKey_old hsth] at this
    have hF0 : DictP (own (upd (upd σ l (.list [V.str dol])) lw (.dict (headsOf g) (upd f st (.ref l))))) lf (headsOf g) F := by
      refine ⟨ff, upd_ne hlfw (upd_new hl k1), fun k hk => ?_, k3⟩
      obtain ⟨l', w1, w2⟩ := k2 k hk
      have w2 : σ l' = some (.list ((F k).map V.str)) := w2
      exact ⟨l', w1, upd_ne (fun q => by rw [q, d1] at w2; cases w2) (upd_new hl w2)⟩
    have o2' : (upd (upd σ l (.list [V.str dol])) lw (.dict (headsOf g) (upd f st (.ref l)))) ln = some (.list (N.map V.str)) := upd_ne (fun q => by rw [q, d1] at o2; cases o2) (upd_new hl o2)
    have hWS0 : WSound g N F st (fun x => if x = st then [dol] else []) := by
      refine ⟨fun k _ => ?_, fun k _ y hy => ?_, fun A hA k _ y hy => ?_⟩
      · by_cases e : k = st
        · simp only [e, if_true]; exact ⟨by simp, by rfl⟩
        · simp only [e, if_false]; exact Canon.nil
      · by_cases e : k = st
        · simp only [e, if_true, List.mem_singleton] at hy; rw [hy]; exact List.mem_cons_self
        · simp only [e, if_false] at hy; cases hy
      · by_cases e : k = st
        · simp only [e, if_true, List.mem_singleton] at hy; rw [hy, e]; exact hA.w0
        · simp only [e, if_false] at hy; cases hy
    clear hl e1 e2 e3
    generalize upd (upd σ l (.list [V.str dol])) lw (.dict (headsOf g) (upd f st (.ref l))) = σ0 at *
    walk_at "stp"
    walk_at "stp"
    walk_at "stp"
    walk_at "stp"
    refine while_ (I6b g st N F ag ln lf lw) _
      ⟨_, true, by walk_at "vlook", by walk_at "vlook", by walk_at "vlook", by walk_at "vlook", by walk_at "vlook", o2', hF0, hW0, hWS0, by simp, fun _ => rfl, fun h => (nomatch h)⟩ (fun k m σ hI Qz hQz => ?_)
    clear v1 v2 v3 v4 o1 o2 o2' hF0 hW0 hWS0 d1 d2 d3 k1 k2 k3
    obtain ⟨W, ch, v1, v2, v3, v4, v5, o2, hDF, hDW, hS, hd0, hk1, hk2⟩ := hI
    walk_at "run"
    refine ⟨ch, rfl, fun hch => ?_, fun hch => ?_⟩
    · subst hch
      have hk1 := hk1 rfl
      walk_at "stp"
      walk_at "stp"
      walk_at "stp"
      walk_at "stp"
      refine for_ I.room.1 (fun _ => .list ag (rs.map V.ref)) (fun _ => I6c g st N F ag ln lf lw W)
        ?_ (fun _ i m σ _ => .inr q1) (fun _ i m σ u hI hu val hval Qz hQz => ?_) (fun _ m σ hI => ?_)
      · walk_at "stp"
        exact ⟨⟨rfl, .inr q1⟩, W, false, by walk_at "vlook", by walk_at "vlook", by walk_at "vlook", by walk_at "vlook", by walk_at "vlook", o2, hDF, hDW, hS, hd0, fun h => (nomatch h), fun _ => ⟨rfl, fun _ h => by simp at h⟩⟩
      · obtain ⟨W', ch, v1, v2, v3, v4, v5, o2, hDF, hDW', hS', hd0', j1, j2⟩ := hI
        obtain ⟨r, hr, rfl⟩ := map_get hu
        obtain ⟨⟨hd, bd⟩, hx⟩ := get_same q2 hr
        obtain ⟨b, k1, k2⟩ := q3 i r _ hr hx
        have hmg : (hd, bd) ∈ g := List.mem_of_getElem? hx
        have hhd : hd ∈ headsOf g := (hmem hd).mpr ⟨bd, hmg⟩
        have hbl : bd.length + 1 ≤ (symsOf g).length := body_len hmg
        refine asg_local ho (by rfl) hval ?_
        walk_at "stp"
        -- the inner loop, over the places of the body
        refine for_ I.room.1 (fun _ => .range bd.length) (fun _ => I6d g st N F ag ln lf lw W i r hd bd)
          ?_ (fun _ p m σ _ => trivial) (fun _ p m σ u hI hu val hval Qz hQz => ?_) (fun _ m σ hI => ?_)
        · refine call_range hM I (by rfl) ?_
          walk_at "stp"
          refine call_len hM I (by rfl) ?_
          walk_at "run"
          walk_at "op"
          walk_at "run"
          refine ⟨b, bd.map V.str, rfl, .inl (.inr k2), by simp; omega, ?_⟩
          walk_at "run"
          refine ⟨_, rfl, fun rr hrr => ⟨⟨rr, rfl, .inl ?_, by omega⟩, W', ch, by walk_at "vlook", by walk_at "vlook", by walk_at "vlook", by walk_at "vlook", by walk_at "vlook", by walk_at "vlook", upd_new hrr o2, DictP.mono _ _ (own_new hrr) hDF, DictP.mono _ _ (own_new hrr) hDW', hS', hd0', j1, fun h => ⟨(j2 h).1, (j2 h).2, fun _ h => absurd h (Nat.not_lt_zero _)⟩⟩⟩
          rw [upd_self, List.length_map]
        · clear v1 v2 v3 v4 v5 o2 hDF hDW' hS' hd0' j1 j2
          obtain ⟨W', ch, v1, v2, v3, v4, v6, v5, o2, hDF, hDW', hS', hd0', j1, j2⟩ := hI
          obtain ⟨hp, rfl⟩ : p < bd.length ∧ V.int (p : Nat) = u := by
            obtain ⟨z, hz, rfl⟩ := map_get hu
            obtain ⟨h1, h2⟩ := List.getElem?_eq_some_iff.mp hz
            simp at h1 h2
            exact ⟨h1, by rw [← h2]⟩
          obtain ⟨sy, hsy⟩ : ∃ sy, bd[p]? = some sy := ⟨bd[p], by simp [hp]⟩
          have hsyv : (bd.map V.str)[((p : Nat) : Int).toNat]? = some (.str sy) := by
            rw [Int.toNat_natCast, List.getElem?_map, hsy]; rfl
          have hp63 : ((p : Nat) : Int) < 2 ^ 63 := by omega
          have hp0 : (0 : Int) ≤ ((p : Nat) : Int) := by omega
          obtain ⟨f, d1, d2, d3⟩ := hDW'
          have d1 : σ lw = some (.dict (headsOf g) f) := d1
          have hDW' : DictP (own σ) lw (headsOf g) W' := ⟨f, d1, d2, d3⟩
          refine asg_local ho (by rfl) hval ?_
          walk_at "run"
          walk_at "op"
          walk_at "run"
          refine sub_list (.inr k2) hp0 hp63 hsyv ?_
          walk_at "run"
          walk_at "op"
          refine ⟨_, rfl, fun hb => ?_, fun hb => ?_⟩
          · have hsh : sy ∈ headsOf g := Classical.byContradiction fun q => by rw [d3 sy q] at hb; cases hb
            obtain ⟨lsy, e1, e2⟩ := d2 sy hsh
            have e2 : σ lsy = some (.list ((W' sy).map V.str)) := e2
            obtain ⟨lhd, e3, e4⟩ := d2 hd hhd
            have e4 : σ lhd = some (.list ((W' hd).map V.str)) := e4
            have hlenW := hS'.len hg
            have hbdU : ∀ y ∈ bd.drop (p + 1), y ∈ univ g := fun y hy => univ_body hmg y (List.mem_of_mem_drop hy)
            walk_at "stp"
            refine assign_pair ho I.room.1 (by rfl) (by rfl) ?_ (by rfl) (by rfl)
            refine call_def I (by rfl) (M.fn hM.p 4 (by rfl)) ?_
            walk_at "run"
            walk_at "op"
            walk_at "run"
            walk_at "op"
            refine ⟨b, _, p + 1, rfl, by simp, .inr k2, by simp; omega, fun lsl hlsl => ?_⟩
            walk_at "run"
            refine ⟨_, _, _, spec_first_of_string M hM (headsOf g) F N (bd.drop (p + 1)) (univ g) lsl lf ln (by simp [univ]; omega) hbdU hFS.inU (hFS.len hg), by decide, ⟨.inl (by rw [upd_self, List.map_drop]), DictP.mono _ _ (fun a o h => .inl (upd_new hlsl h)) hDF, .inl (upd_new hlsl o2)⟩, fun v σ₂ hext hR => ?_⟩
            obtain ⟨t, r1, u1, bb, rfl, t1, t2, hCu, hu1, hbb⟩ := hR
            have t1 : σ₂ t = some (.tuple [.ref r1, .bool bb]) := t1
            have t2 : σ₂ r1 = some (.list (u1.map V.str)) := t2
            have hup : ∀ a o, σ a = some o → σ₂ a = some o := fun a o h => hext _ _ (upd_new hlsl h)
            refine ⟨t, _, _, rfl, .inl t1, ?_⟩
            have hu1U : ∀ y ∈ u1, y ∈ univ g := fun y hy => FSk_in hbdU hFS.inU ((hu1 y).mp hy)
            have hu1l := hCu.le hu1U
            simp only [univ, List.length_cons] at hu1l
            have d1' := hup _ _ d1
            walk_at "run"
            refine call_def I (by rfl) (M.fn hM.p 1 (by rfl)) ?_
            walk_at "run"
            refine sub_dict (.inl d1') e1 ?_
            walk_at "run"
            have hl1 := hlenW sy hsh
            have hl2 := hlenW hd hhd
            refine ⟨_, _, _, spec_merged M hM (W' sy) u1 lsy r1 (by omega), by decide, ⟨.inl (hup _ _ e2), .inl t2⟩, fun v σ₃ hext3 hR => ?_⟩
            obtain ⟨lg1, gr1, rfl, g1, hCg1, hgr1⟩ := hR
            have g1 : σ₃ lg1 = some (.list (gr1.map V.str)) := g1
            have hgr1U : ∀ y ∈ gr1, y ∈ univ g := fun y hy => ((hgr1 y).mp hy).elim (fun q => hS'.inU sy hsh y q) (hu1U y)
            have hgr1l := hCg1.le hgr1U
            simp only [univ, List.length_cons] at hgr1l
            have hup3 : ∀ a o, σ a = some o → σ₃ a = some o := fun a o h => hext3 _ _ (hup _ _ h)
            walk_at "stp"
            refine X.mono (Q₁ := fun f m₁ σ₄ => And10 (f = .next) (∀ a o, σ a = some o → σ₄ a = some o) (m₁ (Str.ofString "g") = some (.ref ag)) (m₁ (Str.ofString "nullables") = some (.ref ln)) (m₁ (Str.ofString "firsts") = some (.ref lf)) (m₁ (Str.ofString "follows") = some (.ref lw)) (m₁ (Str.ofString "rule") = some (.ref r)) (m₁ (Str.ofString "changed") = some (.bool ch)) (m₁ (Str.ofString "symbol") = some (.str sy)) (∃ lg gr, And5 (m₁ (Str.ofString "grown") = some (.ref lg)) (σ₄ lg = some (.list (gr.map V.str))) (Canon gr) (∀ y ∈ gr, y ∈ univ g) (∀ y, y ∈ gr ↔ y ∈ W' sy ∨ FSt g (· ∈ N) (fun x y => y ∈ F x) (bd.drop (p + 1)) y ∨ (Van g (· ∈ N) (bd.drop (p + 1)) ∧ y ∈ W' hd)))) ?_ ?_
            · walk_at "stp"
              walk_at "stp"
              walk_at "stp"
              refine ⟨bb, rfl, fun hbt => ?_, fun hbt => ?_⟩
              · have hv := hbb.mp hbt
                walk_at "stp"
                walk_at "stp"
                refine call_def I (by rfl) (M.fn hM.p 1 (by rfl)) ?_
                walk_at "run"
                walk_at "op"
                refine sub_dict (.inl (hext3 _ _ d1')) e3 ?_
                walk_at "run"
                refine ⟨_, _, _, spec_merged M hM gr1 (W' hd) lg1 lhd (by omega), by decide, ⟨.inl g1, .inl (hup3 _ _ e4)⟩, fun v σ₄ hext4 hR => ?_⟩
                obtain ⟨lg2, gr2, rfl, g2, hCg2, hgr2⟩ := hR
                have g2 : σ₄ lg2 = some (.list (gr2.map V.str)) := g2
                walk_at "run"
                refine ⟨rfl, fun a o h => hext4 _ _ (hup3 a o h), by walk_at "vlook", by walk_at "vlook", by walk_at "vlook", by walk_at "vlook", by walk_at "vlook", by walk_at "vlook", by walk_at "vlook", lg2, gr2, by walk_at "vlook", g2, hCg2, fun y hy => ((hgr2 y).mp hy).elim (hgr1U y) (hS'.inU hd hhd y), fun y => ?_⟩
                rw [hgr2, hgr1, hu1, FSk_iff, ← Vk_iff]
                constructor
                · rintro ((q | q) | q)
                  · exact .inl q
                  · exact .inr (.inl q)
                  · exact .inr (.inr ⟨hv, q⟩)
                · rintro (q | q | ⟨_, q⟩)
                  · exact .inl (.inl q)
                  · exact .inl (.inr q)
                  · exact .inr q
              · have hv : ¬ Vk (headsOf g) N (bd.drop (p + 1)) := fun h => by rw [hbb.mpr h] at hbt; cases hbt
                walk_at "run"
                refine ⟨rfl, hup3, by walk_at "vlook", by walk_at "vlook", by walk_at "vlook", by walk_at "vlook", by walk_at "vlook", by walk_at "vlook", by walk_at "vlook", lg1, gr1, by walk_at "vlook", g1, hCg1, hgr1U, fun y => ?_⟩
                rw [hgr1, hu1, FSk_iff, ← Vk_iff]
                constructor
                · rintro (q | q)
                  · exact .inl q
                  · exact .inr (.inl q)
                · rintro (q | q | ⟨q, _⟩)
                  · exact .inl q
                  · exact .inr q
                  · exact absurd q hv
            · rintro fl m₁ σ₄ ⟨rfl, hup4, v1, v2, v3, v4, v6, v5, v7, lg, gr, v8, g2, hCg, hgrU, hgr⟩
              have d1'' := hup4 _ _ d1
              dsimp only
              walk_at "run"
              refine sub_dict (.inl d1'') e1 ?_
              refine op_ne_strs I.room.units (.inl g2) (.inl (hup4 _ _ e2)) ⟨_, rfl, fun hne => ?_, fun hne => ?_⟩
              · have hne : gr ≠ W' sy := by simpa using hne
                walk_at "stp"
                refine assign_sub ?_ (by rfl)
                walk_at "run"
                intro val oval ival w1 w2 w3
                refine set_dict w2 w3 w1 d1'' (by omega) ?_
                walk_at "run"
                have hset := DictP.set (σ := σ₄) (k := sy) (F := W') d1'' (fun k hk => let ⟨l', q1, q2⟩ := d2 k hk; ⟨l', q1, hup4 _ _ q2⟩) d3 g2
                rw [addKey_old hsh] at hset ⊢
                have hln : ln ≠ lw := fun q => by rw [q, d1] at o2; cases o2
                have hgrow : ∀ y, y ∈ W' sy → y ∈ gr := fun y hy => (hgr y).mpr (.inl hy)
                have hlt := (hS'.canon sy hsh).grows hCg hgrow hne
                have hDF2 : DictP (own (upd σ₄ lw (.dict (headsOf g) (upd f sy (.ref lg))))) lf (headsOf g) F := by
                  obtain ⟨ff, k1, k2, k3⟩ := hDF
                  have k1 : σ lf = some (.dict (headsOf g) ff) := k1
                  refine ⟨ff, upd_ne hlfw (hup4 _ _ k1), fun k hk => ?_, k3⟩
                  obtain ⟨l', w1, w2⟩ := k2 k hk
                  have w2 : σ l' = some (.list ((F k).map V.str)) := w2
                  exact ⟨l', w1, upd_ne (fun q => by rw [q, d1] at w2; cases w2) (hup4 _ _ w2)⟩
                refine ⟨fun x => if x = sy then gr else W' x, true, by walk_at "vlook", by walk_at "vlook", by walk_at "vlook", by walk_at "vlook", by walk_at "vlook", by walk_at "vlook", upd_ne hln (hup4 _ _ o2), hDF2, hset, ⟨fun k hk => ?_, fun k hk y hy => ?_, fun A hA k hk y hy => ?_⟩, ?_, fun _ => ?_, fun h => (nomatch h)⟩
                · by_cases e : k = sy
                  · simp only [e, if_true]; exact hCg
                  · simp only [e, if_false]; exact hS'.canon k hk
                · by_cases e : k = sy
                  · simp only [e, if_true] at hy; exact hgrU y hy
                  · simp only [e, if_false] at hy; exact hS'.inU k hk y hy
                · by_cases e : k = sy
                  · simp only [e, if_true] at hy ⊢
                    have hbs : (hd, bd.take p ++ sy :: bd.drop (p + 1)) ∈ g := by rw [← drop_get hsy, List.take_append_drop]; exact hmg
                    rcases (hgr y).mp hy with q | q | ⟨q1, q2⟩
                    · exact hS'.least A hA sy hsh y q
                    · exact hA.w1 hd _ sy _ y hbs ((hmem sy).mp hsh) q
                    · exact hA.w2 hd _ sy _ y hbs ((hmem sy).mp hsh) q1 (hS'.least A hA hd hhd y q2)
                  · simp only [e, if_false] at hy; exact hS'.least A hA k hk y hy
                · by_cases e : st = sy
                  · simp only [e, if_true]; exact hgrow _ (e ▸ hd0')
                  · simp only [e, if_false]; exact hd0'
                · have hl2 : tot (headsOf g) W' < tot (headsOf g) (fun x => if x = sy then gr else W' x) := tot_lt (fun k hk => by
                    by_cases e : k = sy
                    · simp only [e, if_true]; omega
                    · simp only [e, if_false]; omega) ⟨sy, hsh, by simp only [if_true]; exact hlt⟩
                  cases ch with
                  | true => exact Nat.lt_trans (j1 rfl) hl2
                  | false => rw [← (j2 rfl).1]; exact hl2
              · have hne : gr = W' sy := by simpa using hne
                walk_at "run"
                refine ⟨W', ch, by walk_at "vlook", by walk_at "vlook", by walk_at "vlook", by walk_at "vlook", by walk_at "vlook", by walk_at "vlook", hup4 _ _ o2, DictP.mono _ _ (fun a o h => hup4 a o h) hDF, DictP.mono _ _ (fun a o h => hup4 a o h) hDW', hS', hd0', j1, fun h => ⟨(j2 h).1, (j2 h).2.1, fun p' hp' => ?_⟩⟩
                rcases Nat.lt_succ_iff_lt_or_eq.mp hp' with q | rfl
                · exact (j2 h).2.2 p' q
                · intro z hz hzh
                  have hz : bd[p']? = some z := hz
                  rw [hsy] at hz; cases hz
                  rw [← (j2 h).1]
                  refine ⟨fun y hy => ?_, fun hv y hy => ?_⟩
                  · rw [← hne]; exact (hgr y).mpr (.inr (.inl hy))
                  · rw [← hne]; exact (hgr y).mpr (.inr (.inr ⟨hv, hy⟩))
          · have hsh : sy ∉ headsOf g := fun q => by obtain ⟨l, e, _⟩ := d2 sy q; rw [e] at hb; cases hb
            walk_at "run"
            refine ⟨W', ch, by walk_at "vlook", by walk_at "vlook", by walk_at "vlook", by walk_at "vlook", by walk_at "vlook", by walk_at "vlook", o2, hDF, hDW', hS', hd0', j1, fun h => ⟨(j2 h).1, (j2 h).2.1, fun p' hp' => ?_⟩⟩
            rcases Nat.lt_succ_iff_lt_or_eq.mp hp' with q | rfl
            · exact (j2 h).2.2 p' q
            · intro z hz hzh
              rw [hsy] at hz; cases hz
              exact absurd ((hmem _).mpr hzh) hsh
        · obtain ⟨W', ch, v1, v2, v3, v4, v6, v5, o2, hDF, hDW', hS', hd0', j1, j2⟩ := hI
          have hlen : (Src.range bd.length).items.length = bd.length := by simp [Src.items]
          rw [hlen] at j2
          walk_at "run"
          refine ⟨W', ch, v1, v2, v3, v4, v5, o2, hDF, hDW', hS', hd0', j1, fun h => ⟨(j2 h).1, fun x hx' p => ?_⟩⟩
          rw [take_succ_get hx] at hx'
          rcases List.mem_append.mp hx' with q | q
          · exact (j2 h).2.1 x q p
          · rw [List.mem_singleton.mp q]
            by_cases hp : p < bd.length
            · exact (j2 h).2.2 p hp
            · intro z hz
              simp only at hz
              rw [List.getElem?_eq_none (by omega)] at hz; cases hz
      · obtain ⟨W', ch, v1, v2, v3, v4, v5, o2, hDF, hDW', hS', hd0', j1, j2⟩ := hI
        have hlen : (Src.list ag (rs.map V.ref)).items.length = g.length := by simp [Src.items, q2]
        rw [hlen, List.take_length] at j2
        walk_at "run"
        have l1 := tot_le (hS'.len hg)
        refine ⟨if ch then (headsOf g).length * 29 - tot (headsOf g) W' + 1 else 0, ?_, W', ch, v1, v2, v3, v4, v5, o2, hDF, hDW', hS', hd0', fun h => by simp [h], fun h x hx p => ?_⟩
        · cases ch with
          | true => have := j1 rfl; simp; omega
          | false => simp; omega
        · obtain ⟨e, hcl⟩ := j2 h
          rw [e]; exact hcl x hx p
    · subst hch
      walk_at "run"
      exact ⟨_, rfl, lw, W, rfl, hDW, N, F, hN, hFS, hFC, hS, wok_of_sat hd0 (hk2 rfl)⟩

structure Sets (g : G) (st : Str) (N : List Str) (F W : Str → List Str) : Prop where
  null : NullOf g N
  fs : FSound g N F
  fc : FClosed g N F
  ws : WSound g N F st W
  wok : WOk g N F st (fun x y => y ∈ W x)
/-- when a rule is to be chosen -/
def Pred (g : G) (N : List Str) (F W : Str → List Str) (x : Str × List Str) (y : Str) : Prop := Pr g (· ∈ N) (fun x y => y ∈ F x) (fun x y => y ∈ W x) x.1 x.2 y

theorem null_eq {g : G} {N N' : List Str} (h : NullOf g N) (h' : NullOf g N') : (fun x => x ∈ N') = (fun x => x ∈ N) :=
  funext fun x => propext ⟨fun q => h'.1.least _ h.2 x q, fun q => h.1.least _ h'.2 x q⟩
theorem FSound.to {g : G} {N N' : List Str} {F : Str → List Str} (e : (fun x => x ∈ N') = (fun x => x ∈ N)) (h : FSound g N' F) : FSound g N F :=
  ⟨h.canon, h.inU, fun A hA => h.least A (fun h r y hm hy => hA h r y hm (by rw [← e]; exact hy))⟩
theorem FClosed.to {g : G} {N N' : List Str} {F : Str → List Str} (e : (fun x => x ∈ N') = (fun x => x ∈ N)) (h : FClosed g N' F) : FClosed g N F := fun h' r y hm hy => h h' r y hm (by rw [e]; exact hy)
theorem first_eq {g : G} {N : List Str} {F F' : Str → List Str} (h1 : FSound g N F) (h2 : FClosed g N F) (h1' : FSound g N F') (h2' : FClosed g N F') : ∀ k ∈ headsOf g, ∀ y, y ∈ F' k ↔ y ∈ F k :=
  fun k hk y => ⟨fun q => h1'.least (fun k y => y ∈ F k) h2 k hk y q, fun q => h1.least (fun k y => y ∈ F' k) h2' k hk y q⟩
theorem FSt_eq {g : G} {N : List Str} {F F' : Str → List Str} (h : ∀ k ∈ headsOf g, ∀ y, y ∈ F' k ↔ y ∈ F k) {r : List Str} {y : Str} : FSt g (· ∈ N) (fun x y => y ∈ F' x) r y ↔ FSt g (· ∈ N) (fun x y => y ∈ F x) r y :=
  ⟨FSt_mono fun x hx y q => (h x (((headsOf_spec g).2 x).mpr hx) y).mp q, FSt_mono fun x hx y q => (h x (((headsOf_spec g).2 x).mpr hx) y).mpr q⟩
theorem WOk.to {g : G} {st : Str} {N N' : List Str} {F F' : Str → List Str} {A : Str → Str → Prop} (e : (fun x => x ∈ N') = (fun x => x ∈ N)) (h : ∀ k ∈ headsOf g, ∀ y, y ∈ F' k ↔ y ∈ F k) (w : WOk g N' F' st A) : WOk g N F st A := by
  refine ⟨w.w0, fun h' a x b y hm hx hy => w.w1 h' a x b y hm hx ?_, fun h' a x b y hm hx hv => w.w2 h' a x b y hm hx (by rw [e]; exact hv)⟩
  rw [e]; exact (FSt_eq h).mpr hy
theorem Sets.of {g : G} {st : Str} {N N' : List Str} {F F' W : Str → List Str} (n : NullOf g N) (n' : NullOf g N') (h1 : FSound g N F) (h2 : FClosed g N F) (h1' : FSound g N' F') (h2' : FClosed g N' F') (w : WSound g N' F' st W) (w' : WOk g N' F' st (fun x y => y ∈ W x)) : Sets g st N F W := by
  have e := null_eq n n'
  have ef := first_eq h1 h2 (h1'.to e) (h2'.to e)
  exact ⟨n, h1, h2, ⟨w.canon, w.inU, fun A hA => w.least A (hA.to e.symm fun k hk y => (ef k hk y).symm)⟩, w'.to e ef⟩
theorem Sets.pred {g : G} {st : Str} {N N' : List Str} {F F' W W' : Str → List Str} (a : Sets g st N F W) (b : Sets g st N' F' W') {x : Str × List Str} (hx : x ∈ g) {y : Str} : Pred g N F W x y ↔ Pred g N' F' W' x y := by
  have e := null_eq a.null b.null
  have ef := first_eq a.fs a.fc (b.fs.to e) (b.fc.to e)
  have hh : x.1 ∈ headsOf g := ((headsOf_spec g).2 _).mpr ⟨x.2, hx⟩
  have ew : ∀ y, y ∈ W' x.1 ↔ y ∈ W x.1 := fun y => ⟨fun q => b.ws.least (fun k y => y ∈ W k) (a.wok.to e.symm fun k hk y => (ef k hk y).symm) _ hh y q, fun q => a.ws.least (fun k y => y ∈ W' k) (b.wok.to e ef) _ hh y q⟩
  unfold Pred Pr
  rw [show FSt g (· ∈ N') (fun x y => y ∈ F' x) x.2 y ↔ FSt g (· ∈ N) (fun x y => y ∈ F x) x.2 y from by rw [e]; exact FSt_eq ef, show Van g (· ∈ N') x.2 = Van g (· ∈ N) x.2 from by rw [e]]
  show _ ∨ _ ∧ y ∈ W x.1 ↔ _ ∨ _ ∧ y ∈ W' x.1
  rw [ew]
/-- no two rules want one place -/
def NC (g : G) (N : List Str) (F W : Str → List Str) : Prop := ∀ (j j' : Nat) x x' y, g[j]? = some x → g[j']? = some x' → x.1 = x'.1 → Pred g N F W x y → Pred g N F W x' y → j = j'
theorem Sets.nc {g : G} {st : Str} {N N' : List Str} {F F' W W' : Str → List Str} (a : Sets g st N F W) (b : Sets g st N' F' W') (h : NC g N F W) : NC g N' F' W' := fun j j' x x' y h1 h2 e p1 p2 =>
  h j j' x x' y h1 h2 e ((a.pred b (List.mem_of_getElem? h1)).mpr p1) ((a.pred b (List.mem_of_getElem? h2)).mpr p2)

def PredP (P : Vw) (a : Addr) (ps : List (List Str)) : Prop := ∃ ls : List Addr, P a (.list (ls.map V.ref)) ∧ ls.length = ps.length ∧ ∀ (i : Nat) l u, ls[i]? = some l → ps[i]? = some u → StrL P l u
theorem PredP.mono {a : Addr} {ps : List (List Str)} : Mono fun P => PredP P a ps := fun _ _ h ⟨ls, h1, h2, h3⟩ => ⟨ls, h _ _ h1, h2, fun i l u e1 e2 => h _ _ (h3 i l u e1 e2)⟩
def PredOf (g : G) (N : List Str) (F W : Str → List Str) (ps : List (List Str)) : Prop := ∀ (i : Nat) x u, g[i]? = some x → ps[i]? = some u → Canon u ∧ (∀ y ∈ u, y ∈ univ g) ∧ ∀ y, y ∈ u ↔ Pred g N F W x y

theorem get_snoc {α : Type} {l : List α} {a x : α} {i : Nat} (h : (l ++ [a])[i]? = some x) : (l[i]? = some x ∧ i < l.length) ∨ (i = l.length ∧ x = a) := by
  rcases Nat.lt_or_ge i l.length with q | q
  · rw [List.getElem?_append_left q] at h; exact .inl ⟨h, q⟩
  · rw [List.getElem?_append_right q] at h
    cases e : i - l.length with
    | zero => rw [e] at h; exact .inr ⟨by omega, by simpa using h.symm⟩
    | succ n => rw [e] at h; simp at h

/-- owned, but not this one -/
def ownB (σ : Hp) (b : Addr) : Vw := fun a o => σ a = some o ∧ a ≠ b

inductive I7 (g : G) (N : List Str) (F W : Str → List Str) (ln lf lw lp : Addr) (i : Nat) (m : Vars) (σ : Hp) : Prop
  | mk (h1 : m (Str.ofString "nullables") = some (.ref ln)) (h2 : m (Str.ofString "firsts") = some (.ref lf)) (h3 : m (Str.ofString "follows") = some (.ref lw)) (h4 : m (Str.ofString "predicts") = some (.ref lp)) (h5 : ownB σ lp ln (.list (N.map V.str))) (h6 : DictP (ownB σ lp) lf (headsOf g) F) (h7 : DictP (ownB σ lp) lw (headsOf g) W)
    (ls : List Addr) (ps : List (List Str)) (h8 : σ lp = some (.list (ls.map V.ref))) (h9 : ls.length = i) (h10 : ps.length = i) (h11 : ∀ (j : Nat) l u, ls[j]? = some l → ps[j]? = some u → StrL (ownB σ lp) l u) (h12 : PredOf g N F W ps)
inductive J7 (g : G) (N : List Str) (F W : Str → List Str) (ln lf lw lp : Addr) (hd : Str) (bd : List Str) (σ : Hp) (fl : Fl) (m₁ : Vars) (σ₄ : Hp) : Prop
  | mk (h0 : fl = .next) (h1 : ∀ a o, σ a = some o → σ₄ a = some o) (h2 : m₁ (Str.ofString "nullables") = some (.ref ln)) (h3 : m₁ (Str.ofString "firsts") = some (.ref lf)) (h4 : m₁ (Str.ofString "follows") = some (.ref lw)) (h5 : m₁ (Str.ofString "predicts") = some (.ref lp)) (lg : Addr) (gr : List Str)
    (h6 : m₁ (Str.ofString "begins") = some (.ref lg)) (h7 : lg ≠ lp) (h8 : σ₄ lg = some (.list (gr.map V.str))) (h9 : Canon gr) (h10 : ∀ y ∈ gr, y ∈ univ g) (h11 : ∀ y, y ∈ gr ↔ Pred g N F W (hd, bd) y)
theorem spec_predict_sets (M : Mod) (hM : Ok M) (st : Str) (b0 : List Str) (g' : G) (ag : Addr) (hg : (symsOf ((st, b0) :: g')).length ≤ 28) :
    Spec M 6 (Str.ofString "predict_sets") [.ref ag] (fun P => GramP P ag ((st, b0) :: g')) (fun v P => ∃ a ps N F W, v = .ref a ∧ PredP P a ps ∧ ps.length = ((st, b0) :: g').length ∧ Sets ((st, b0) :: g') st N F W ∧ PredOf ((st, b0) :: g') N F W ps) := by
  have hfol : ∀ ag, Spec M 5 (Str.ofString "follow_sets") [.ref ag] (fun P => GramP P ag ((st, b0) :: g')) (fun v P => ∃ a W, v = .ref a ∧ DictP P a (headsOf ((st, b0) :: g')) W ∧ FollowsOf ((st, b0) :: g') st W) := fun ag => spec_follow_sets M hM st b0 g' ag hg
  generalize hge : (st, b0) :: g' = g at hg hfol ⊢
  have hgl : g.length ≤ 28 := Nat.le_trans (syms_len g) hg
  have hgb : ∀ x ∈ g, x.2.length ≤ 1000 := fun x hx => by have := body_len hx; omega
  obtain ⟨hnd, hmem⟩ := headsOf_spec g
  refine mkSpec hM.p 7 [Str.ofString "g"] (by rfl) (by decide) (by decide) (by decide) (fun vals pm code doc h => by obtain ⟨a, rfl, _⟩ := one_val h; rfl) (by rfl) (by rfl) (by rfl) ?_ ?_ fun c L fa code I hpre Qf hQf => ?_
  · exact GramP.mono
  · rintro v A B h ⟨a, ps, N, F, W, e, q, k⟩; exact ⟨a, ps, N, F, W, e, PredP.mono A B h q, k⟩
  have ho := I.env
  dsimp only [vars0] at ho I ⊢
  have hpre' := hpre
  obtain ⟨rs, q1, q2, q3⟩ := hpre
  have hgram : ∀ σ, GramP (Sees c σ) ag g := fun σ => GramP.mono _ _ (fun a o h => .inr h) hpre'
  walk_at "run"
  refine call_def I (by rfl) (M.fn hM.p 3 (by rfl)) ?_
  walk_at "run"
  refine ⟨_, _, _, spec_nullable_heads M hM g ag (by omega) hgb, by decide, hgram _, fun v σ₁ _ hR => ?_⟩
  obtain ⟨ln, N, rfl, oN, hN⟩ := hR
  have oN : σ₁ ln = some (.list (N.map V.str)) := oN
  walk_at "run"
  refine call_def I (by rfl) (M.fn hM.p 5 (by rfl)) ?_
  walk_at "run"
  refine ⟨_, _, _, spec_first_sets M hM g ag hg, by decide, hgram _, fun v σ₂ hx2 hR => ?_⟩
  obtain ⟨lf, F, rfl, hDF, N', hN', hFS, hFC⟩ := hR
  have eN := null_eq hN hN'
  have hFS := hFS.to eN
  have hFC := hFC.to eN
  have oN := hx2 _ _ oN
  walk_at "run"
  refine call_def I (by rfl) (M.fn hM.p 6 (by rfl)) ?_
  walk_at "run"
  refine ⟨_, _, _, hfol ag, by decide, hgram _, fun v σ₃ hx3 hR => ?_⟩
  obtain ⟨lw, W, rfl, hDW, N2, F2, n2, fs2, fc2, ws2, wok2⟩ := hR
  have hSets : Sets g st N F W := Sets.of hN n2 hFS hFC fs2 fc2 ws2 wok2
  have oN := hx3 _ _ oN
  have hDF : DictP (own σ₃) lf (headsOf g) F := DictP.mono _ _ (fun a o h => hx3 a o h) hDF
  walk_at "run"
  refine ⟨by simp, fun lp hlp => ?_⟩
  walk_at "stp"
  refine for_ I.room.1 (fun _ => .list ag (rs.map V.ref)) (fun _ => I7 g N F W ln lf lw lp)
      ?_ (fun _ i m σ _ => .inr q1) (fun _ i m σ u hI hu val hval Qz hQz => ?_) (fun _ m σ hI => ?_)
  · walk_at "run"
    exact ⟨⟨rfl, .inr q1⟩, by walk_at "vlook", by walk_at "vlook", by walk_at "vlook", by walk_at "vlook", ⟨upd_new hlp oN, ne_of_new hlp oN⟩, DictP.mono _ _ (fun a o h => ⟨upd_new hlp h, ne_of_new hlp h⟩) hDF, DictP.mono _ _ (fun a o h => ⟨upd_new hlp h, ne_of_new hlp h⟩) hDW, [], [], upd_self, rfl, rfl, fun j l u h => by simp at h, fun j x u _ h => by simp at h⟩
  · obtain ⟨v1, v2, v3, v4, o1, hDF, hDW, ls, ps, o2, hl1, hl2, hls, hps⟩ := hI
    obtain ⟨r, hr, rfl⟩ := map_get hu
    obtain ⟨⟨hd, bd⟩, hx⟩ := get_same q2 hr
    obtain ⟨b, k1, k2⟩ := q3 i r _ hr hx
    have hmg : (hd, bd) ∈ g := List.mem_of_getElem? hx
    have hhd : hd ∈ headsOf g := (hmem hd).mpr ⟨bd, hmg⟩
    have hig : i < g.length := (List.getElem?_eq_some_iff.mp hx).1
    have hDW0 := hDW
    obtain ⟨f, d1, d2, d3⟩ := hDW
    have d1 : σ lw = some (.dict (headsOf g) f) := d1.1
    obtain ⟨lhd, e3, e4⟩ := d2 hd hhd
    have e4 : σ lhd = some (.list ((W hd).map V.str)) := e4.1
    have hWl := hSets.ws.len hg hd hhd
    refine asg_local ho (by rfl) hval ?_
    walk_at "stp"
    refine assign_pair ho I.room.1 (by rfl) (by rfl) ?_ (by rfl) (by rfl)
    refine call_defN I (by rfl) (M.fn hM.p 4 (by rfl)) ?_
    walk_at "run"
    walk_at "op"
    walk_at "run"
    refine ⟨_, _, _, spec_first_of_string M hM (headsOf g) F N bd (univ g) b lf ln (by simp [univ]; omega) (univ_body hmg) hFS.inU (hFS.len hg), by decide, ⟨.inr k2, DictP.mono _ _ (fun a o h => .inl h.1) hDF, .inl o1.1⟩, fun v σ₂ hext hR => ?_⟩
    obtain ⟨t, r1, u1, bb, rfl, t1, t2, hCu, hu1, hbb⟩ := hR
    have hne1 : r1 ≠ lp := Ne.symm (ne_of_new t2.2 o2)
    have t1 : σ₂ t = some (.tuple [.ref r1, .bool bb]) := t1.1
    have t2 : σ₂ r1 = some (.list (u1.map V.str)) := t2.1
    refine ⟨t, _, _, rfl, .inl t1, ?_⟩
    have hu1U : ∀ y ∈ u1, y ∈ univ g := fun y hy => FSk_in (univ_body hmg) hFS.inU ((hu1 y).mp hy)
    have hu1l := hCu.le hu1U
    simp only [univ, List.length_cons] at hu1l
    walk_at "stp"
    refine X.monoL (Q₁ := J7 g N F W ln lf lw lp hd bd σ) (fun Qm hQm => ?_) ?_
    · walk_at "run"
      refine ⟨bb, rfl, fun hbt => ?_, fun hbt => ?_⟩
      · have hv := hbb.mp hbt
        walk_at "run"
        refine call_defN I (by rfl) (M.fn hM.p 1 (by rfl)) ?_
        walk_at "run"
        walk_at "op"
        refine sub_dict (.inl (hext _ _ d1)) e3 ?_
        walk_at "run"
        refine ⟨_, _, _, spec_merged M hM u1 (W hd) r1 lhd (by omega), by decide, ⟨.inl t2, .inl (hext _ _ e4)⟩, fun v σ₄ hext4 hR => ?_⟩
        obtain ⟨lg2, gr2, rfl, g2, hCg2, hgr2⟩ := hR
        have hne2 : lg2 ≠ lp := Ne.symm (ne_of_new g2.2 (hext _ _ o2))
        have g2 : σ₄ lg2 = some (.list (gr2.map V.str)) := g2.1
        walk_at "run"
        refine ⟨rfl, fun a o h => hext4 _ _ (hext a o h), by walk_at "vlook", by walk_at "vlook", by walk_at "vlook", by walk_at "vlook", lg2, gr2, by walk_at "vlook", hne2, g2, hCg2, fun y hy => ((hgr2 y).mp hy).elim (hu1U y) (hSets.ws.inU hd hhd y), fun y => ?_⟩
        rw [hgr2, hu1, FSk_iff]
        constructor
        · rintro (q | q)
          · exact .inl q
          · exact .inr ⟨Vk_iff.mp hv, q⟩
        · rintro (q | ⟨_, q⟩)
          · exact .inl q
          · exact .inr q
      · have hv : ¬ Vk (headsOf g) N bd := fun h => by rw [hbb.mpr h] at hbt; cases hbt
        walk_at "run"
        refine ⟨rfl, hext, by walk_at "vlook", by walk_at "vlook", by walk_at "vlook", by walk_at "vlook", r1, u1, by walk_at "vlook", hne1, t2, hCu, hu1U, fun y => ?_⟩
        rw [hu1, FSk_iff]
        constructor
        · exact fun q => .inl q
        · rintro (q | ⟨q, _⟩)
          · exact q
          · exact absurd (Vk_iff.mpr q) hv
    · rintro fl m₁ σ₄ ⟨rfl, hup4, v1, v2, v3, v4, lg, gr, v5, hne, g2, hCg, hgrU, hgr⟩
      dsimp only
      walk_at "run"
      refine ⟨lp, rfl, ⟨_, .inl (hup4 _ _ o2)⟩, ?_⟩
      walk_at "run"
      refine ⟨_, hup4 _ _ o2, by simp; omega, rfl, ?_⟩
      walk_at "run"
      have hkeep : ∀ a o, ownB σ lp a o → ownB (upd σ₄ lp (.list (ls.map V.ref ++ [V.ref lg]))) lp a o := fun a o h => ⟨upd_ne h.2 (hup4 _ _ h.1), h.2⟩
      refine ⟨by walk_at "vlook", by walk_at "vlook", by walk_at "vlook", by walk_at "vlook", hkeep _ _ o1, DictP.mono _ _ hkeep hDF, DictP.mono _ _ hkeep hDW0, ls ++ [lg], ps ++ [gr], by rw [upd_self, List.map_append]; rfl, by simp [hl1], by simp [hl2], fun j l u e1 e2 => ?_, fun j x u e1 e2 => ?_⟩
      · rcases get_snoc e1 with ⟨w1, w2⟩ | ⟨w1, w2⟩
        · rcases get_snoc e2 with ⟨w3, _⟩ | ⟨w3, _⟩
          · exact hkeep _ _ (hls j l u w1 w3)
          · omega
        · rcases get_snoc e2 with ⟨_, w3⟩ | ⟨_, w3⟩
          · omega
          · rw [w2, w3]; exact ⟨upd_ne hne g2, hne⟩
      · rcases get_snoc e2 with ⟨w3, _⟩ | ⟨w1, w3⟩
        · exact hps j x u e1 w3
        · have : j = i := by omega
          subst this
          rw [hx] at e1; cases e1
          rw [w3]; exact ⟨hCg, hgrU, hgr⟩
  · obtain ⟨v1, v2, v3, v4, o1, hDF, hDW, ls, ps, o2, hl1, hl2, hls, hps⟩ := hI
    have hlen : (Src.list ag (rs.map V.ref)).items.length = g.length := by simp [Src.items, q2]
    rw [hlen] at hl1 hl2
    walk_at "run"
    exact ⟨_, rfl, lp, ps, N, F, W, rfl, ⟨ls, o2, by omega, fun j l u e1 e2 => (hls j l u e1 e2).1⟩, hl2, hSets, hps⟩

/-- the table: for each head a dict of rule numbers -/
def TabP (P : Vw) (a : Addr) (ks : List Str) (T : Str → Str → Option Nat) : Prop :=
  ∃ f : Str → Option V, P a (.dict ks f) ∧ (∀ k, k ∈ ks → ∃ r ts, f k = some (.ref r) ∧ P r (.dict ts fun t => (T k t).map fun n => V.int (n : Nat))) ∧ (∀ k, k ∉ ks → f k = none)
theorem TabP.mono {a : Addr} {ks : List Str} {T : Str → Str → Option Nat} : Mono fun P => TabP P a ks T := fun _ _ h ⟨f, h1, h2, h3⟩ => ⟨f, h _ _ h1, fun k hk => let ⟨r, ts, q1, q2⟩ := h2 k hk; ⟨r, ts, q1, h _ _ q2⟩, h3⟩
def rowD (T : Str → Str → Option Nat) (k : Str) : Str → Option V := fun t => (T k t).map fun n => V.int (n : Nat)
structure TabS (σ : Hp) (U : List Str) (lt : Addr) (ks : List Str) (f : Str → Option V) (row : Str → Addr) (ts : Str → List Str) (T : Str → Str → Option Nat) : Prop where
  tab : σ lt = some (.dict ks f)
  val : ∀ k, k ∈ ks → f k = some (.ref (row k))
  no : ∀ k, k ∉ ks → f k = none
  rows : ∀ k, k ∈ ks → σ (row k) = some (.dict (ts k) (rowD T k))
  nodup : ∀ k, k ∈ ks → (ts k).Nodup
  sub : ∀ k, k ∈ ks → ∀ x ∈ ts k, x ∈ U
  ne : ∀ k, k ∈ ks → row k ≠ lt
  inj : ∀ k k', k ∈ ks → k' ∈ ks → row k = row k' → k = k'
theorem TabS.up {σ σ' : Hp} {U : List Str} {lt : Addr} {ks : List Str} {f : Str → Option V} {row : Str → Addr} {ts : Str → List Str} {T : Str → Str → Option Nat} (h : ∀ a o, σ a = some o → σ' a = some o) (t : TabS σ U lt ks f row ts T) : TabS σ' U lt ks f row ts T :=
  { t with tab := h _ _ t.tab, rows := fun k hk => h _ _ (t.rows k hk) }
theorem TabS.toP {σ : Hp} {U : List Str} {lt : Addr} {ks : List Str} {f : Str → Option V} {row : Str → Addr} {ts : Str → List Str} {T : Str → Str → Option Nat} (t : TabS σ U lt ks f row ts T) : TabP (own σ) lt ks T :=
  ⟨f, t.tab, fun k hk => ⟨row k, ts k, t.val k hk, t.rows k hk⟩, t.no⟩
/-- a new head -/
theorem TabS.add {σ : Hp} {U : List Str} {lt r : Addr} {ks : List Str} {f : Str → Option V} {row : Str → Addr} {ts : Str → List Str} {T : Str → Str → Option Nat} {x : Str} (t : TabS σ U lt ks f row ts T) (hr : σ r = none) (hx : x ∉ ks) (hT : ∀ y, T x y = none) :
    TabS (upd (upd σ r (.dict [] fun _ => none)) lt (.dict (ks ++ [x]) (upd f x (.ref r)))) U lt (ks ++ [x]) (upd f x (.ref r)) (fun k => if k = x then r else row k) (fun k => if k = x then [] else ts k) T := by
  have hrl : r ≠ lt := Ne.symm (ne_of_new hr t.tab)
  have mem : ∀ k, k ∈ ks ++ [x] ↔ k ∈ ks ∨ k = x := fun k => by simp
  refine ⟨upd_self, fun k hk => ?_, fun k hk => ?_, fun k hk => ?_, fun k hk => ?_, fun k hk => ?_, fun k hk => ?_, fun k k' hk hk' e => ?_⟩
  · by_cases e : k = x
    · subst e; simp [upd]
    · simp only [upd, e, if_false]; exact t.val k (((mem k).mp hk).resolve_right e)
  · rw [mem] at hk
    exact upd_ne (fun e => hk (.inr e)) (t.no k fun q => hk (.inl q))
  · by_cases e : k = x
    · subst e
      simp only [if_true]
      refine upd_ne hrl (upd_self.trans ?_)
      congr 1; congr 1
      funext y; simp [rowD, hT y]
    · simp only [e, if_false]
      have hk' := ((mem k).mp hk).resolve_right e
      exact upd_ne (t.ne k hk') (upd_new hr (t.rows k hk'))
  · by_cases e : k = x
    · simp only [e, if_true]; exact .nil
    · simp only [e, if_false]; exact t.nodup k (((mem k).mp hk).resolve_right e)
  · by_cases e : k = x
    · simp [e]
    · simp only [e, if_false]; exact t.sub k (((mem k).mp hk).resolve_right e)
  · by_cases e : k = x
    · simp only [e, if_true]; exact hrl
    · simp only [e, if_false]; exact t.ne k (((mem k).mp hk).resolve_right e)
  · have old : ∀ k, k ∈ ks → row k ≠ r := fun k hk q => by have := t.rows k hk; rw [q, hr] at this; cases this
    by_cases e1 : k = x
    · by_cases e2 : k' = x
      · rw [e1, e2]
      · simp only [e1, if_true, e2, if_false] at e
        exact absurd e.symm (old k' (((mem k').mp hk').resolve_right e2))
    · by_cases e2 : k' = x
      · simp only [e1, if_false, e2, if_true] at e
        exact absurd e (old k (((mem k).mp hk).resolve_right e1))
      · simp only [e1, if_false, e2] at e
        exact t.inj k k' (((mem k).mp hk).resolve_right e1) (((mem k').mp hk').resolve_right e2) e
def put2 (T : Str → Str → Option Nat) (h t : Str) (n : Nat) : Str → Str → Option Nat := fun h' t' => if h' = h ∧ t' = t then some n else T h' t'
/-- a new entry -/
theorem TabS.put {σ : Hp} {U : List Str} {lt : Addr} {ks : List Str} {f : Str → Option V} {row : Str → Addr} {ts : Str → List Str} {T : Str → Str → Option Nat} {h y : Str} {n : Nat} (t : TabS σ U lt ks f row ts T) (hh : h ∈ ks) (hy : y ∈ U) :
    TabS (upd σ (row h) (.dict (addKey (ts h) y) (upd (rowD T h) y (.int (n : Nat))))) U lt ks f row (fun k => if k = h then addKey (ts h) y else ts k) (put2 T h y n) := by
  refine ⟨upd_ne (Ne.symm (t.ne h hh)) t.tab, t.val, t.no, fun k hk => ?_, fun k hk => ?_, fun k hk => ?_, t.ne, t.inj⟩
  · by_cases e : k = h
    · subst e
      rw [upd_self]
      simp only [if_true]
      congr 1; congr 1
      funext z
      simp only [rowD, put2, upd]
      by_cases ez : z = y
      · simp [ez]
      · simp [ez]
    · simp only [e, if_false]
      refine upd_ne (fun q => e (t.inj k h hk hh q)) ((t.rows k hk).trans ?_)
      congr 1; congr 1
      funext z
      simp [rowD, put2, e]
  · by_cases e : k = h
    · simp only [e, if_true]
      unfold addKey
      split
      · exact t.nodup h hh
      · rename_i hn
        rw [List.nodup_append]
        refine ⟨t.nodup h hh, by simp, ?_⟩
        intro a ha b hb
        rw [List.mem_singleton] at hb
        subst hb
        exact fun e => hn (e ▸ ha)
    · simp only [e, if_false]; exact t.nodup k hk
  · by_cases e : k = h
    · simp only [e, if_true]
      intro x hx
      rcases addKey_mem.mp hx with q | q
      · exact t.sub h hh x q
      · rw [q]; exact hy
    · simp only [e, if_false]; exact t.sub k hk

/-- entries up to rule k, token i -/
def Done (ps : List (List Str)) (k i j : Nat) (t : Str) : Prop := ∃ u, ps[j]? = some u ∧ ((j < k ∧ t ∈ u) ∨ (j = k ∧ t ∈ u.take i))
def NCl (g : G) (ps : List (List Str)) : Prop := ∀ (j j' : Nat) x x' u u' t, g[j]? = some x → g[j']? = some x' → ps[j]? = some u → ps[j']? = some u' → x.1 = x'.1 → t ∈ u → t ∈ u' → j = j'
structure TInv (g : G) (ps : List (List Str)) (k i : Nat) (T : Str → Str → Option Nat) (cl : Nat) : Prop where
  a : ∀ h t j, T h t = some j → Done ps k i j t ∧ ∃ r, g[j]? = some (h, r)
  b : ∀ (j : Nat) t h r, Done ps k i j t → g[j]? = some (h, r) → ∃ j', T h t = some j'
  c : cl = 0 → ∀ (j j' : Nat) t h r r', Done ps k i j t → Done ps k i j' t → g[j]? = some (h, r) → g[j']? = some (h, r') → j = j'
  d : NCl g ps → cl = 0
theorem done_succ {ps : List (List Str)} {k i : Nat} {u : List Str} {t : Str} (hu : ps[k]? = some u) (ht : u[i]? = some t) {j : Nat} {t' : Str} : Done ps k (i + 1) j t' ↔ Done ps k i j t' ∨ (j = k ∧ t' = t) := by
  constructor
  · rintro ⟨v, hv, ⟨h1, h2⟩ | ⟨h1, h2⟩⟩
    · exact .inl ⟨v, hv, .inl ⟨h1, h2⟩⟩
    · subst h1
      rw [hu] at hv; cases hv
      rw [take_succ_get ht] at h2
      rcases List.mem_append.mp h2 with q | q
      · exact .inl ⟨u, hu, .inr ⟨rfl, q⟩⟩
      · exact .inr ⟨rfl, List.mem_singleton.mp q⟩
  · rintro (⟨v, hv, ⟨h1, h2⟩ | ⟨h1, h2⟩⟩ | ⟨h1, h2⟩)
    · exact ⟨v, hv, .inl ⟨h1, h2⟩⟩
    · subst h1
      rw [hu] at hv; cases hv
      exact ⟨u, hu, .inr ⟨rfl, by rw [take_succ_get ht]; exact List.mem_append_left _ h2⟩⟩
    · subst h1; subst h2
      exact ⟨u, hu, .inr ⟨rfl, by rw [take_succ_get ht]; simp⟩⟩
theorem TInv.hit {g : G} {ps : List (List Str)} {k i : Nat} {T : Str → Str → Option Nat} {cl j0 : Nat} {u : List Str} {t h : Str} {r : List Str} (I : TInv g ps k i T cl) (hu : ps[k]? = some u) (ht : u[i]? = some t) (hn : u.Nodup) (hk : g[k]? = some (h, r)) (hT : T h t = some j0) :
    TInv g ps k (i + 1) T (cl + 1) := by
  refine ⟨fun h' t' j e => ?_, fun j t' h' r' hd hj => ?_, fun h => (by omega), fun hNC => ?_⟩
  · exact ⟨(done_succ hu ht).mpr (.inl (I.a h' t' j e).1), (I.a h' t' j e).2⟩
  · rcases (done_succ hu ht).mp hd with q | ⟨rfl, rfl⟩
    · exact I.b j t' h' r' q hj
    · rw [hk] at hj; cases hj; exact ⟨j0, hT⟩
  · exfalso
    obtain ⟨⟨v, hv, hd⟩, r0, hj0⟩ := I.a h t j0 hT
    have htu : t ∈ u := List.mem_of_getElem? ht
    rcases hd with ⟨h1, h2⟩ | ⟨h1, h2⟩
    · have := hNC j0 k (h, r0) (h, r) v u t hj0 hk hv hu rfl h2 htu
      omega
    · subst h1
      rw [hu] at hv; cases hv
      have h3 := hn
      rw [← List.take_append_drop i u, drop_get ht, List.nodup_append] at h3
      exact h3.2.2 t h2 t List.mem_cons_self rfl
theorem TInv.new {g : G} {ps : List (List Str)} {k i : Nat} {T : Str → Str → Option Nat} {cl : Nat} {u : List Str} {t h : Str} {r : List Str} (I : TInv g ps k i T cl) (hu : ps[k]? = some u) (ht : u[i]? = some t) (hk : g[k]? = some (h, r)) (hT : T h t = none) :
    TInv g ps k (i + 1) (put2 T h t k) cl := by
  have nold : ∀ j r', Done ps k i j t → g[j]? = some (h, r') → False := fun j r' hd hj => by
    obtain ⟨j', e⟩ := I.b j t h r' hd hj
    rw [hT] at e; cases e
  refine ⟨fun h' t' j e => ?_, fun j t' h' r' hd hj => ?_, fun hc j j' t' h' r' r'' h1 h2 h3 h4 => ?_, I.d⟩
  · unfold put2 at e
    split at e
    · rename_i q
      cases e
      rw [q.1, q.2]
      exact ⟨(done_succ hu ht).mpr (.inr ⟨rfl, rfl⟩), r, hk⟩
    · exact ⟨(done_succ hu ht).mpr (.inl (I.a h' t' j e).1), (I.a h' t' j e).2⟩
  · unfold put2
    split
    · exact ⟨k, rfl⟩
    · rename_i q
      rcases (done_succ hu ht).mp hd with w | ⟨rfl, rfl⟩
      · exact I.b j t' h' r' w hj
      · rw [hk] at hj; cases hj; exact absurd ⟨rfl, rfl⟩ q
  · rcases (done_succ hu ht).mp h1 with w1 | ⟨rfl, rfl⟩
    · rcases (done_succ hu ht).mp h2 with w2 | ⟨rfl, rfl⟩
      · exact I.c hc j j' t' h' r' r'' w1 w2 h3 h4
      · rw [hk] at h4; cases h4; exact (nold j r' w1 h3).elim
    · rcases (done_succ hu ht).mp h2 with w2 | ⟨q, _⟩
      · rw [hk] at h3; cases h3; exact (nold j' r'' w2 h4).elim
      · exact q.symm
theorem done_next {ps : List (List Str)} {k : Nat} {u : List Str} (hu : ps[k]? = some u) {j : Nat} {t : Str} : Done ps (k + 1) 0 j t ↔ Done ps k u.length j t := by
  constructor
  · rintro ⟨v, hv, ⟨h1, h2⟩ | ⟨h1, h2⟩⟩
    · rcases Nat.lt_succ_iff_lt_or_eq.mp h1 with q | rfl
      · exact ⟨v, hv, .inl ⟨q, h2⟩⟩
      · rw [hu] at hv; cases hv
        exact ⟨u, hu, .inr ⟨rfl, by rw [List.take_length]; exact h2⟩⟩
    · simp at h2
  · rintro ⟨v, hv, ⟨h1, h2⟩ | ⟨h1, h2⟩⟩
    · exact ⟨v, hv, .inl ⟨by omega, h2⟩⟩
    · subst h1
      rw [hu] at hv; cases hv
      rw [List.take_length] at h2
      exact ⟨u, hu, .inl ⟨by omega, h2⟩⟩
theorem TInv.next {g : G} {ps : List (List Str)} {k : Nat} {T : Str → Str → Option Nat} {cl : Nat} {u : List Str} (I : TInv g ps k u.length T cl) (hu : ps[k]? = some u) : TInv g ps (k + 1) 0 T cl :=
  ⟨fun h t j e => ⟨(done_next hu).mpr (I.a h t j e).1, (I.a h t j e).2⟩, fun j t h r hd hj => I.b j t h r ((done_next hu).mp hd) hj, fun hc j j' t h r r' h1 h2 => I.c hc j j' t h r r' ((done_next hu).mp h1) ((done_next hu).mp h2), I.d⟩

/-- what the table says -/
structure TabOf (g : G) (N : List Str) (F W : Str → List Str) (T : Str → Str → Option Nat) (cl : Nat) : Prop where
  a : ∀ h t j, T h t = some j → ∃ r, g[j]? = some (h, r) ∧ Pred g N F W (h, r) t
  b : ∀ (j : Nat) t h r, g[j]? = some (h, r) → Pred g N F W (h, r) t → ∃ j', T h t = some j'
  c : cl = 0 ↔ NC g N F W
theorem TInv.tabOf {g : G} {ps : List (List Str)} {T : Str → Str → Option Nat} {cl : Nat} {N : List Str} {F W : Str → List Str} (I : TInv g ps g.length 0 T cl) (hl : ps.length = g.length) (hp : PredOf g N F W ps) : TabOf g N F W T cl := by
  have dn : ∀ (j : Nat) x t, g[j]? = some x → (Done ps g.length 0 j t ↔ Pred g N F W x t) := fun j x t hj => by
    obtain ⟨u, hu⟩ := get_same hl.symm hj
    have hjl : j < g.length := (List.getElem?_eq_some_iff.mp hj).1
    rw [← (hp j x u hj hu).2.2 t]
    constructor
    · rintro ⟨v, hv, ⟨_, h2⟩ | ⟨h1, _⟩⟩
      · rw [hu] at hv; cases hv; exact h2
      · omega
    · exact fun h => ⟨u, hu, .inl ⟨hjl, h⟩⟩
  refine ⟨fun h t j e => ?_, fun j t h r hj hP => I.b j t h r ((dn j _ t hj).mpr hP) hj, fun hc j j' x x' y h1 h2 e p1 p2 => ?_, fun hNC => I.d ?_⟩
  · obtain ⟨hd, r, hj⟩ := I.a h t j e
    exact ⟨r, hj, (dn j _ t hj).mp hd⟩
  · obtain ⟨hx, rx⟩ := x
    obtain ⟨hx', rx'⟩ := x'
    obtain rfl : hx = hx' := e
    exact I.c hc j j' y hx rx rx' ((dn j _ y h1).mpr p1) ((dn j' _ y h2).mpr p2) h1 h2
  · intro j j' x x' u u' t h1 h2 h3 h4 e m1 m2
    exact hNC j j' x x' t h1 h2 e (((hp j x u h1 h3).2.2 t).mp m1) (((hp j' x' u' h2 h4).2.2 t).mp m2)

inductive I8b (g : G) (ps : List (List Str)) (ag lp lt : Addr) (σ₁ : Hp) (k : Nat) (m : Vars) (σ : Hp) : Prop
  | mk (h1 : m (Str.ofString "g") = some (.ref ag)) (h2 : m (Str.ofString "predicts") = some (.ref lp)) (h3 : m (Str.ofString "table") = some (.ref lt)) (h4 : ∀ a xs, σ₁ a = some (.list xs) → σ a = some (.list xs)) (cl : Nat) (T : Str → Str → Option Nat) (f : Str → Option V) (row : Str → Addr) (ts : Str → List Str) (h5 : m (Str.ofString "clashes") = some (.int (cl : Nat))) (h6 : TabS σ (univ g) lt (headsOf g) f row ts T) (h7 : TInv g ps k 0 T cl)
inductive I8c (g : G) (ps : List (List Str)) (ag lp lt : Addr) (σ₁ : Hp) (k : Nat) (hd : Str) (f : Str → Option V) (row : Str → Addr) (i : Nat) (m : Vars) (σ : Hp) : Prop
  | mk (h1 : m (Str.ofString "g") = some (.ref ag)) (h2 : m (Str.ofString "predicts") = some (.ref lp)) (h3 : m (Str.ofString "table") = some (.ref lt)) (h4 : m (Str.ofString "k") = some (.int (k : Nat))) (h5 : m (Str.ofString "row") = some (.ref (row hd))) (h6 : ∀ a xs, σ₁ a = some (.list xs) → σ a = some (.list xs)) (cl : Nat) (T : Str → Str → Option Nat) (ts : Str → List Str) (h7 : m (Str.ofString "clashes") = some (.int (cl : Nat))) (h8 : TabS σ (univ g) lt (headsOf g) f row ts T) (h9 : TInv g ps k i T cl)
theorem spec_ll1_table (M : Mod) (hM : Ok M) (st : Str) (b0 : List Str) (g' : G) (ag : Addr) (hg : (symsOf ((st, b0) :: g')).length ≤ 28) :
    Spec M 7 (Str.ofString "ll1_table") [.ref ag] (fun P => GramP P ag ((st, b0) :: g'))
      (fun v P => ∃ t a T cl N F W, v = .ref t ∧ P t (.tuple [.ref a, .int (cl : Nat)]) ∧ TabP P a (headsOf ((st, b0) :: g')) T ∧ Sets ((st, b0) :: g') st N F W ∧ TabOf ((st, b0) :: g') N F W T cl) := by
  have hprd := fun ag => spec_predict_sets M hM st b0 g' ag hg
  generalize hge : (st, b0) :: g' = g at hg hprd ⊢
  have hgl : g.length ≤ 28 := Nat.le_trans (syms_len g) hg
  have hUl : (univ g).length ≤ 29 := by simp [univ]; omega
  have hhl := headsOf_len g
  obtain ⟨hnd, hmem⟩ := headsOf_spec g
  refine mkSpec hM.p 8 [Str.ofString "g"] (by rfl) (by decide) (by decide) (by decide) (fun vals pm code doc h => by obtain ⟨a, rfl, _⟩ := one_val h; rfl) (by rfl) (by rfl) (by rfl) ?_ ?_ fun c L fa code I hpre Qf hQf => ?_
  · exact GramP.mono
  · rintro v A B h ⟨t, a, T, cl, N, F, W, e, q, q', k⟩; exact ⟨t, a, T, cl, N, F, W, e, h _ _ q, TabP.mono A B h q', k⟩
  have ho := I.env
  dsimp only [vars0] at ho I ⊢
  have hpre' := hpre
  obtain ⟨rs, q1, q2, q3⟩ := hpre
  have hgram : ∀ σ, GramP (Sees c σ) ag g := fun σ => GramP.mono _ _ (fun a o h => .inr h) hpre'
  walk_at "run"
  refine call_def I (by rfl) (M.fn hM.p 7 (by rfl)) ?_
  walk_at "run"
  refine ⟨_, _, _, hprd ag, by decide, hgram _, fun v σ₁ _ hR => ?_⟩
  obtain ⟨lp, ps, N, F, W, rfl, ⟨ls, p1, p2, p3⟩, hpl, hSets, hPO⟩ := hR
  have p1 : σ₁ lp = some (.list (ls.map V.ref)) := p1
  walk_at "run"
  refine new_dict hM I fun lt hlt => ?_
  walk_at "stp"
  refine for_ I.room.1 (fun v => .list v.addr ((headsOf g).map V.str)) (fun v i m σ => And6 (m (Str.ofString "g") = some (.ref ag)) (m (Str.ofString "predicts") = some (.ref lp)) (m (Str.ofString "table") = some (.ref lt)) (σ v.addr = some (.list ((headsOf g).map V.str))) (∀ a xs, σ₁ a = some (.list xs) → σ a = some (.list xs)) (∃ f row ts, TabS σ (univ g) lt ((headsOf g).take i) f row ts (fun _ _ => none)))
      ?_ (fun _ i m σ h => .inl h.h4) (fun v i m σ u hI hu val hval Qz hQz => ?_) (fun v m σ hI => ?_)
  · refine call_def I (by rfl) (M.fn hM.p 0 (by rfl)) ?_
    walk_at "run"
    refine ⟨_, _, _, spec_heads_of M hM g ag (by omega), by decide, hgram _, fun v σ₃ hext hR => ?_⟩
    obtain ⟨lh, rfl, oh⟩ := hR
    refine ⟨⟨rfl, .inl oh⟩, by walk_at "vlook", by walk_at "vlook", by walk_at "vlook", oh, fun a xs h => hext _ _ (upd_new hlt h), fun _ => none, fun _ => 0, fun _ => [], hext _ _ upd_self, fun k hk => ?_, fun k _ => rfl, fun k hk => ?_, fun k hk => ?_, fun k hk => ?_, fun k hk => ?_, fun k k' hk => ?_⟩ <;> simp at hk
  · obtain ⟨v1, v2, v3, o1, o2, f, row, ts, hT⟩ := hI
    obtain ⟨x, hx, rfl⟩ := map_get hu
    refine asg_local ho (by rfl) hval ?_
    walk_at "stp"
    refine assign_sub ?_ (by rfl)
    refine new_dict hM I fun r hr => ?_
    walk_at "run"
    intro val oval ival e1 e2 e3
    have hxn : x ∉ (headsOf g).take i := fun hm => by
      have h1 := hnd
      rw [← List.take_append_drop i (headsOf g), drop_get hx, List.nodup_append] at h1
      exact h1.2.2 x hm x List.mem_cons_self rfl
    refine set_dict e2 e3 e1 (upd_new hr hT.tab) (by have : ((headsOf g).take i).length ≤ (headsOf g).length := by rw [List.length_take]; exact Nat.min_le_right _ _
                                                     omega) ?_
    walk_at "run"
    have hadd := hT.add hr hxn (fun _ => rfl)
    rw [addKey_new hxn, take_succ_get hx]
    refine ⟨by walk_at "vlook", by walk_at "vlook", by walk_at "vlook", upd_ne (fun q => by rw [q, hT.tab] at o1; cases o1) (upd_new hr o1), fun a xs h => ?_, _, _, _, hadd⟩
    have h := o2 a xs h
    exact upd_ne (fun q => by rw [q, hT.tab] at h; cases h) (upd_new hr h)
  · obtain ⟨v1, v2, v3, o1, o2, hT⟩ := hI
    have hlen : (Src.list v.addr ((headsOf g).map V.str)).items.length = (headsOf g).length := by simp [Src.items]
    rw [hlen, List.take_length] at hT
    walk_at "run"
    refine for_ I.room.1 (fun _ => .range g.length) (fun _ => I8b g ps ag lp lt σ₁)
      ?_ (fun _ k m σ _ => trivial) (fun _ k m σ u hI hu val hval Qz hQz => ?_) (fun _ m σ hI => ?_)
    · obtain ⟨f, row, ts, hT⟩ := hT
      refine call_range hM I (by rfl) ?_
      walk_at "stp"
      refine call_len hM I (by rfl) ?_
      walk_at "run"
      refine ⟨ag, rs.map V.ref, rfl, .inl (.inr q1), by simp; omega, ?_⟩
      walk_at "run"
      refine ⟨_, rfl, fun rr hrr => ⟨⟨rr, rfl, .inl ?_, by omega⟩, by walk_at "vlook", by walk_at "vlook", by walk_at "vlook", fun a xs h => upd_new hrr (o2 a xs h), 0, fun _ _ => none, f, row, ts, by exact upd_self, hT.up (fun a o h => upd_new hrr h), ?_⟩⟩
      · rw [upd_self, List.length_map, q2]
      · refine ⟨fun h t j e => (nomatch e), fun j t h r hd hj => ?_, fun _ j j' t h r r' h1 => ?_, fun _ => rfl⟩
        · obtain ⟨u, _, ⟨q, _⟩ | ⟨_, q⟩⟩ := hd
          · exact absurd q (Nat.not_lt_zero _)
          · simp at q
        · obtain ⟨u, _, ⟨q, _⟩ | ⟨_, q⟩⟩ := h1
          · exact absurd q (Nat.not_lt_zero _)
          · simp at q
    · clear v1 v2 v3 o1 o2 hT
      obtain ⟨v1, v2, v3, o2, cl, T, f, row, ts, v4, hT, hTI⟩ := hI
      obtain ⟨hk, rfl⟩ : k < g.length ∧ V.int (k : Nat) = u := by
        obtain ⟨z, hz, rfl⟩ := map_get hu
        obtain ⟨h1, h2⟩ := List.getElem?_eq_some_iff.mp hz
        simp at h1 h2
        exact ⟨h1, by rw [← h2]⟩
      obtain ⟨⟨hd, bd⟩, hx⟩ : ∃ x, g[k]? = some x := ⟨g[k], by simp [hk]⟩
      obtain ⟨r, hr⟩ := get_same q2.symm hx
      obtain ⟨b, k1, k2⟩ := q3 k r _ hr hx
      obtain ⟨uu, huu⟩ := get_same hpl.symm hx
      obtain ⟨lu, hlu⟩ := get_same p2.symm huu
      have p3' : σ₁ lu = some (.list (uu.map V.str)) := p3 k lu uu hlu huu
      obtain ⟨hCu, huU, _⟩ := hPO k _ uu hx huu
      have hmg : (hd, bd) ∈ g := List.mem_of_getElem? hx
      have hhd : hd ∈ headsOf g := (hmem hd).mpr ⟨bd, hmg⟩
      have hrv : (rs.map V.ref)[((k : Nat) : Int).toNat]? = some (.ref r) := by rw [Int.toNat_natCast, List.getElem?_map, hr]; rfl
      have hlv : (ls.map V.ref)[((k : Nat) : Int).toNat]? = some (.ref lu) := by rw [Int.toNat_natCast, List.getElem?_map, hlu]; rfl
      have h0 : (0 : Int) ≤ ((k : Nat) : Int) := by omega
      have h63 : ((k : Nat) : Int) < 2 ^ 63 := by omega
      refine asg_local ho (by rfl) hval ?_
      walk_at "run"
      refine sub_list (.inr q1) h0 h63 hrv ?_
      walk_at "run"
      walk_at "op"
      refine sub_dict (.inl hT.tab) (hT.val hd hhd) ?_
      walk_at "stp"
      refine for_ I.room.1 (fun _ => .list lu (uu.map V.str)) (fun _ => I8c g ps ag lp lt σ₁ k hd f row)
        ?_ (fun _ i m σ ⟨_, _, _, _, _, h6, _, _, _, _, _, _⟩ => .inl (h6 _ _ p3')) (fun _ i m σ u hI hu val hval Qz hQz => ?_) (fun _ m σ hI => ?_)
      · walk_at "run"
        refine sub_list (.inl (o2 _ _ p1)) h0 h63 hlv ?_
        exact ⟨⟨rfl, .inl (o2 _ _ p3')⟩, by walk_at "vlook", by walk_at "vlook", by walk_at "vlook", by walk_at "vlook", by walk_at "vlook", o2, cl, T, ts, by walk_at "vlook", hT, hTI⟩
      · clear v1 v2 v3 v4 o2 hT hTI
        obtain ⟨v1, v2, v3, v5, v6, o2, cl, T, ts, v4, hT, hTI⟩ := hI
        obtain ⟨t, ht, rfl⟩ := map_get hu
        have hrow := hT.rows hd hhd
        refine asg_local ho (by rfl) hval ?_
        walk_at "run"
        walk_at "op"
        refine ⟨_, rfl, fun hb => ?_, fun hb => ?_⟩
        · obtain ⟨j0, hj0⟩ : ∃ j0, T hd t = some j0 := by
            cases e : T hd t with
            | none => simp [rowD, e] at hb
            | some j0 => exact ⟨j0, rfl⟩
          walk_at "run"
          walk_at "op"
          walk_at "run"
          refine ⟨by walk_at "vlook", by walk_at "vlook", by walk_at "vlook", by walk_at "vlook", by walk_at "vlook", o2, cl + 1, T, ts, ?_, hT, hTI.hit huu ht hCu.1 hx hj0⟩
          rw [upd_self]; rfl
        · have hnone : T hd t = none := by
            cases e : T hd t with
            | none => rfl
            | some j0 => simp [rowD, e] at hb
          walk_at "stp"
          refine assign_sub ?_ (by rfl)
          walk_at "run"
          intro val oval ival e1 e2 e3
          have hts := List.Nodup.length_le_of_subset (hT.nodup hd hhd) (hT.sub hd hhd)
          refine set_dict e2 e3 e1 hrow (by omega) ?_
          walk_at "run"
          refine ⟨by walk_at "vlook", by walk_at "vlook", by walk_at "vlook", by walk_at "vlook", by walk_at "vlook", fun a xs h => ?_, cl, put2 T hd t k, _, by walk_at "vlook", hT.put hhd (huU t (List.mem_of_getElem? ht)), hTI.new huu ht hx hnone⟩
          have h := o2 a xs h
          exact upd_ne (fun q => by rw [q, hrow] at h; cases h) h
      · obtain ⟨v1, v2, v3, v5, v6, o2, cl, T, ts, v4, hT, hTI⟩ := hI
        have hlen : (Src.list lu (uu.map V.str)).items.length = uu.length := by simp [Src.items]
        rw [hlen] at hTI
        walk_at "run"
        exact ⟨v1, v2, v3, o2, cl, T, f, row, ts, v4, hT, hTI.next huu⟩
    · clear v1 v2 v3 o1 o2 hT
      obtain ⟨v1, v2, v3, o2, cl, T, f, row, ts, v4, hT, hTI⟩ := hI
      have hlen : (Src.range g.length).items.length = g.length := by simp [Src.items]
      rw [hlen] at hTI
      walk_at "run"
      refine ⟨by simp, fun t ht => hQf.go <| ⟨_, rfl, t, lt, T, cl, N, F, W, rfl, upd_self, TabP.mono _ _ (own_new ht) hT.toP, hSets, hTI.tabOf hpl hPO⟩⟩

theorem spec_is_ll1 (M : Mod) (hM : Ok M) (st : Str) (b0 : List Str) (g' : G) (ag : Addr) (hg : (symsOf ((st, b0) :: g')).length ≤ 28) :
    Spec M 8 (Str.ofString "is_ll1") [.ref ag] (fun P => GramP P ag ((st, b0) :: g')) (fun v P => ∃ b N F W, v = .bool b ∧ Sets ((st, b0) :: g') st N F W ∧ (b = true ↔ NC ((st, b0) :: g') N F W)) := by
  refine mkSpec hM.p 9 [Str.ofString "g"] (by rfl) (by decide) (by decide) (by decide) (fun vals pm code doc h => by obtain ⟨a, rfl, _⟩ := one_val h; rfl) (by rfl) (by rfl) (by rfl) ?_ ?_ fun c L fa code I hpre Qf hQf => ?_
  · exact GramP.mono
  · rintro v A B h ⟨b, N, F, W, e, k⟩; exact ⟨b, N, F, W, e, k⟩
  have ho := I.env
  dsimp only [vars0] at ho I ⊢
  walk_at "run"
  refine call_def I (by rfl) (M.fn hM.p 8 (by rfl)) ?_
  walk_at "run"
  refine ⟨_, _, _, spec_ll1_table M hM st b0 g' ag hg, by decide, GramP.mono _ _ (fun a o h => .inr h) hpre, fun v σ₁ _ hR => ?_⟩
  obtain ⟨t, a, T, cl, N, F, W, rfl, p1, p2, hS, hT⟩ := hR
  have p1 : σ₁ t = some (.tuple [.ref a, .int (cl : Nat)]) := p1
  walk_at "run"
  walk_at "op"
  walk_at "run"
  walk_at "op"
  refine hQf.go <| ⟨_, rfl, _, N, F, W, rfl, hS, ?_⟩
  rw [← hT.c, beq_iff_eq]
  omega

/-- a head's spans, by the tables; a token moves on by one -/
def Mv (ks : List Str) (D : Str → Nat → Nat → Bool) (toks : List Str) (x : Str) (i j : Nat) : Prop := (x ∈ ks ∧ i ≤ toks.length ∧ j ≤ toks.length ∧ D x i j = true) ∨ (x ∉ ks ∧ toks[i]? = some x ∧ j = i + 1)
inductive Rch (ks : List Str) (D : Str → Nat → Nat → Bool) (toks : List Str) : List Str → Nat → Nat → Prop
  | nil {i : Nat} : Rch ks D toks [] i i
  | snoc {b : List Str} {x : Str} {i k j : Nat} : Rch ks D toks b i k → Mv ks D toks x k j → Rch ks D toks (b ++ [x]) i j
theorem Rch.nil_iff {ks : List Str} {D : Str → Nat → Nat → Bool} {toks : List Str} {i j : Nat} : Rch ks D toks [] i j ↔ j = i := by
  constructor
  · intro h
    generalize hb : ([] : List Str) = b at h
    cases h with
    | nil => rfl
    | snoc _ _ => simp at hb
  · rintro rfl; exact .nil
theorem Rch.snoc_iff {ks : List Str} {D : Str → Nat → Nat → Bool} {toks : List Str} {b : List Str} {x : Str} {i j : Nat} : Rch ks D toks (b ++ [x]) i j ↔ ∃ k, Rch ks D toks b i k ∧ Mv ks D toks x k j := by
  constructor
  · intro h
    generalize hb : b ++ [x] = b' at h
    cases h with
    | nil => simp at hb
    | snoc h1 h2 =>
      obtain ⟨e1, e2⟩ := List.append_inj' hb rfl
      cases e1; cases e2
      exact ⟨_, h1, h2⟩
  · rintro ⟨k, h1, h2⟩; exact .snoc h1 h2
theorem Mv.le {ks : List Str} {D : Str → Nat → Nat → Bool} {toks : List Str} {x : Str} {i j : Nat} (h : Mv ks D toks x i j) : i ≤ toks.length ∧ j ≤ toks.length := by
  rcases h with ⟨_, h1, h2, _⟩ | ⟨_, h1, rfl⟩
  · exact ⟨h1, h2⟩
  · have := (List.getElem?_eq_some_iff.mp h1).1
    omega

def TblP (P : Vw) (a : Addr) (ks : List Str) (n : Nat) (D : Str → Nat → Nat → Bool) : Prop :=
  ∃ f : Str → Option V, P a (.dict ks f) ∧ (∀ k, k ∈ ks → ∃ lr, ∃ rows : List Addr, f k = some (.ref lr) ∧ P lr (.list (rows.map V.ref)) ∧ rows.length = n + 1 ∧ ∀ (i : Nat) r, rows[i]? = some r → P r (.arr ((List.range (n + 1)).map fun j => V.bool (D k i j)))) ∧ (∀ k, k ∉ ks → f k = none)
theorem TblP.mono {a : Addr} {ks : List Str} {n : Nat} {D : Str → Nat → Nat → Bool} : Mono fun P => TblP P a ks n D := fun _ _ h ⟨f, h1, h2, h3⟩ =>
  ⟨f, h _ _ h1, fun k hk => let ⟨lr, rows, q1, q2, q3, q4⟩ := h2 k hk; ⟨lr, rows, q1, h _ _ q2, q3, fun i r e => h _ _ (q4 i r e)⟩, h3⟩
def nats (l : List Nat) : List V := l.map fun (j : Nat) => V.int (j : Nat)
theorem nats_ints (l : List Nat) : nats l = (l.map fun (j : Nat) => (j : Int)).map V.int := by simp [nats]

inductive I9a (ks : List Str) (D : Str → Nat → Nat → Bool) (bd toks : List Str) (s : Nat) (lt la L : Addr) (i : Nat) (m : Vars) (σ : Hp) : Prop
  | mk (h1 : m (Str.ofString "tokens") = some (.ref lt)) (h2 : σ (L + 1) = some (.cell (some (.ref la)))) (h3 : ∃ c2, σ (L + 1 + 1) = some (.cell c2)) (h4 : ∃ c3, σ (L + 1 + 1 + 1) = some (.cell c3)) (ap : Addr) (pl : List Nat) (h5 : m (Str.ofString "places") = some (.ref ap))
    (h6 : σ ap = some (.list (nats pl))) (h7 : pl.length ≤ toks.length + 1) (h8 : ∀ j ∈ pl, j ≤ toks.length) (h9 : ∀ j, j ∈ pl ↔ Rch ks D toks (bd.take i) s j)
inductive I9b (ks : List Str) (D : Str → Nat → Nat → Bool) (toks : List Str) (lt la L ap am : Addr) (sy : Str) (pl : List Nat) (j : Nat) (m : Vars) (σ : Hp) : Prop
  | mk (h1 : m (Str.ofString "tokens") = some (.ref lt)) (h2 : m (Str.ofString "places") = some (.ref ap)) (h3 : m (Str.ofString "moved") = some (.ref am)) (h4 : σ (L + 1) = some (.cell (some (.ref la)))) (h5 : σ (L + 1 + 1) = some (.cell (some (.str sy)))) (h6 : ∃ c3, σ (L + 1 + 1 + 1) = some (.cell c3))
    (h7 : σ ap = some (.list (nats pl))) (mv : List Nat) (h8 : σ am = some (.list (nats mv))) (h9 : mv.length ≤ j) (h10 : ∀ z, z ∈ mv ↔ z < j ∧ ∃ k ∈ pl, Mv ks D toks sy k z)
theorem spec_places_after (M : Mod) (hM : Ok M) (ks : List Str) (D : Str → Nat → Nat → Bool) (bd toks : List Str) (s : Nat) (lb lt la : Addr) (hs : s ≤ toks.length) (hn : toks.length ≤ 900) (hb : bd.length ≤ 900) :
    Spec M 2 (Str.ofString "places_after") [.ref lb, .int (s : Nat), .ref lt, .ref la] (fun P => StrL P lb bd ∧ StrL P lt toks ∧ TblP P la ks toks.length D)
      (fun v P => ∃ a pl, v = .ref a ∧ P a (.list (nats pl)) ∧ pl.length ≤ toks.length + 1 ∧ (∀ j ∈ pl, j ≤ toks.length) ∧ ∀ j, j ∈ pl ↔ Rch ks D toks bd s j) := by
  refine mkSpecC hM.p 11 [Str.ofString "body", Str.ofString "start", Str.ofString "tokens", Str.ofString "tables"] (upd (upd (upd (fun _ => none) (Str.ofString "tokens") (.ref lt)) (Str.ofString "start") (.int (s : Nat))) (Str.ofString "body") (.ref lb))
    (fun L => upd (upd (upd (fun _ => none) (L + 1) (.cell (some (.ref la)))) (L + 1 + 1) (.cell none)) (L + 1 + 1 + 1) (.cell none)) (by rfl)
    (fun vals h => by obtain ⟨a, b, d, e, rfl⟩ := four_val h; rfl) (fun vals h x v e => ?_) (fun L vals h a o e => ?_)
    (fun vals pm code doc h => by obtain ⟨a, b, d, e, rfl⟩ := four_val h; rfl) (by rfl) (by rfl) (by rfl) ?_ ?_ fun c L fa code I hpre Qf hQf => ?_
  · obtain ⟨a1, a2, a3, a4, rfl⟩ := four_val h
    simp only [List.map_cons, List.cons.injEq] at h
    unfold upd at e
    split at e
    · rename_i hx; subst hx; cases e; exact ⟨a1, by rfl, h.1⟩
    · split at e
      · rename_i hx; subst hx; cases e; exact ⟨a2, by rfl, h.2.1⟩
      · split at e
        · rename_i hx; subst hx; cases e; exact ⟨a3, by rfl, h.2.2.1⟩
        · cases e
  · obtain ⟨a1, a2, a3, a4, rfl⟩ := four_val h
    simp only [List.map_cons, List.cons.injEq] at h
    unfold upd at e
    split at e
    · rename_i hx; subst hx; cases e; exact ⟨Str.ofString "j", by rfl, by rfl⟩
    · split at e
      · rename_i hx; subst hx; cases e; exact ⟨Str.ofString "symbol", by rfl, by rfl⟩
      · split at e
        · rename_i hx; subst hx; cases e
          refine ⟨Str.ofString "tables", by rfl, ?_⟩
          rw [← h.2.2.2.1]; rfl
        · cases e
  · rintro A B h ⟨q1, q2, q3⟩; exact ⟨h _ _ q1, h _ _ q2, TblP.mono A B h q3⟩
  · rintro v A B h ⟨a, pl, e, q, k⟩; exact ⟨a, pl, e, h _ _ q, k⟩
  obtain ⟨q1, q2, f, q3, q4, q5⟩ := hpre
  have ho := I.env
  dsimp only at ho I ⊢
  have hL1 : L + 1 ≠ L + 1 + 1 := Nat.ne_of_lt (Nat.lt_succ_self _)
  have hL2 : L + 1 + 1 ≠ L + 1 + 1 + 1 := Nat.ne_of_lt (Nat.lt_succ_self _)
  have hL3 : L + 1 ≠ L + 1 + 1 + 1 := Nat.ne_of_lt (Nat.lt_trans (Nat.lt_succ_self _) (Nat.lt_succ_self _))
  walk_at "run"
  refine ⟨by simp, fun ap0 hap0 => ?_⟩
  walk_at "stp"
  refine for_ I.room.1 (fun _ => .list lb (bd.map V.str)) (fun _ => I9a ks D bd toks s lt la L)
      ?_ (fun _ i m σ _ => .inr q1) (fun v i m σ u hI hu val hval Qz hQz => ?_) (fun _ m σ hI => ?_)
  · walk_at "run"
    refine ⟨⟨rfl, .inr q1⟩, by walk_at "vlook", upd_new hap0 (upd_ne hL3 (upd_ne hL1 upd_self)), ⟨_, upd_new hap0 (upd_ne hL2 upd_self)⟩, ⟨_, upd_new hap0 upd_self⟩, ap0, [s], by walk_at "vlook", upd_self, by simp, by simpa using hs, fun j => ?_⟩
    rw [List.take_zero, Rch.nil_iff]; simp
  · obtain ⟨v1, o1, ⟨c2, o2⟩, ⟨c3, o3⟩, ap, pl, v2, o4, hpl1, hpl2, hpl3⟩ := hI
    obtain ⟨sy, hsy, rfl⟩ := map_get hu
    refine asg_cell ho (by rfl) (by rfl) o2 hval ?_
    have n1 : L + 1 ≠ L + 1 + 1 := hL1
    have o1' : upd σ (L + 1 + 1) (.cell (some (.str sy))) (L + 1) = some (.cell (some (.ref la))) := upd_ne hL1 o1
    have o3' : upd σ (L + 1 + 1) (.cell (some (.str sy))) (L + 1 + 1 + 1) = some (.cell c3) := upd_ne (Ne.symm hL2) o3
    have o4' : upd σ (L + 1 + 1) (.cell (some (.str sy))) ap = some (.list (nats pl)) := upd_ne (fun q => by rw [q, o2] at o4; cases o4) o4
    have o2' : upd σ (L + 1 + 1) (.cell (some (.str sy))) (L + 1 + 1) = some (.cell (some (.str sy))) := upd_self
    generalize upd σ (L + 1 + 1) (.cell (some (.str sy))) = σ1 at *
    walk_at "run"
    refine ⟨by simp, fun am ham => ?_⟩
    walk_at "stp"
    have hamp : ap ≠ am := ne_of_new ham o4'
    refine for_ I.room.1 (fun _ => .range (toks.length + 1)) (fun _ => I9b ks D toks lt la L ap am sy pl)
        ?_ (fun _ j m σ _ => trivial) (fun _ j m σ u hI hu val hval Qz hQz => ?_) (fun _ m σ hI => ?_)
    · refine call_range hM I (by rfl) ?_
      walk_at "run"
      refine call_len hM I (by rfl) ?_
      walk_at "run"
      refine ⟨lt, toks.map V.str, rfl, .inl (.inr q2), by simp; omega, ?_⟩
      walk_at "run"
      walk_at "op"
      walk_at "run"
      refine ⟨_, rfl, fun rr hrr => ⟨⟨rr, rfl, .inl ?_, by omega⟩, by walk_at "vlook", by walk_at "vlook", by walk_at "vlook", upd_new hrr (upd_new ham o1'), upd_new hrr (upd_new ham o2'), ⟨_, upd_new hrr (upd_new ham o3')⟩, upd_new hrr (upd_new ham o4'), [], upd_new hrr upd_self, by simp, fun z => ?_⟩⟩
      · rw [upd_self, List.length_map]; simp
      · simp
    · clear v1 v2 o1 o2 o3 o4 o1' o2' o3' o4'
      obtain ⟨v1, v2, v3, o1, o2, ⟨c3, o3⟩, o4, mv, o5, hmv1, hmv2⟩ := hI
      obtain ⟨hj, rfl⟩ : j < toks.length + 1 ∧ V.int (j : Nat) = u := by
        obtain ⟨z, hz, rfl⟩ := map_get hu
        obtain ⟨h1, h2⟩ := List.getElem?_eq_some_iff.mp hz
        simp at h1 h2
        exact ⟨by omega, by rw [← h2]⟩
      refine asg_cell ho (by rfl) (by rfl) o3 hval ?_
      have o1' : upd σ (L + 1 + 1 + 1) (.cell (some (.int (j : Nat)))) (L + 1) = some (.cell (some (.ref la))) := upd_ne hL3 o1
      have o2' : upd σ (L + 1 + 1 + 1) (.cell (some (.int (j : Nat)))) (L + 1 + 1) = some (.cell (some (.str sy))) := upd_ne hL2 o2
      have o3' : upd σ (L + 1 + 1 + 1) (.cell (some (.int (j : Nat)))) (L + 1 + 1 + 1) = some (.cell (some (.int (j : Nat)))) := upd_self
      have o4' : upd σ (L + 1 + 1 + 1) (.cell (some (.int (j : Nat)))) ap = some (.list (nats pl)) := upd_ne (fun q => by rw [q, o3] at o4; cases o4) o4
      have o5' : upd σ (L + 1 + 1 + 1) (.cell (some (.int (j : Nat)))) am = some (.list (nats mv)) := upd_ne (fun q => by rw [q, o3] at o5; cases o5) o5
      generalize upd σ (L + 1 + 1 + 1) (.cell (some (.int (j : Nat)))) = σ2 at *
      clear o1 o2 o3 o4 o5
      walk_at "stp"
      -- whether the place is met
      refine X.mono (Q₁ := fun fl m₁ σ₄ => And6 (fl = .next) (∀ a o, σ2 a = some o → σ₄ a = some o) (m₁ (Str.ofString "tokens") = some (.ref lt)) (m₁ (Str.ofString "places") = some (.ref ap)) (m₁ (Str.ofString "moved") = some (.ref am)) (∃ b, m₁ (Str.ofString "met") = some (.bool b) ∧ (b = true ↔ ∃ k ∈ pl, Mv ks D toks sy k j))) ?_ ?_
      · walk_at "run"
        walk_at "op"
        refine ⟨_, rfl, fun hb => ?_, fun hb => ?_⟩
        · have hk : sy ∈ ks := Classical.byContradiction fun q => by rw [q5 sy q] at hb; cases hb
          obtain ⟨lr, rows, e1, e2, e3, e4⟩ := q4 sy hk
          walk_at "run"
          refine call_any hM I (by rfl) ?_
          walk_at "run"
          refine listcomp I.room.1 ho (cl := [(Str.ofString "tables", L + 1), (Str.ofString "symbol", L + 1 + 1), (Str.ofString "j", L + 1 + 1 + 1)]) (fun _ => .list ap (nats pl)) (fun _ i ys σ' => σ' = σ2 ∧ ys = (pl.take i).map fun p => V.bool (D sy p j))
            ?_ (fun _ i ys σ' h => .inl (h.1 ▸ o4')) (fun _ i ys σ' u C hI' hu' hoC => ?_) (by rfl) (by decide) (by rfl) (by decide) (by decide)
          · walk_at "run"
            refine ⟨⟨rfl, .inl o4'⟩, ⟨rfl, by simp⟩, by simp [Src.items, nats]; omega, fun ys σ₃ D' hI' hD' => ?_⟩
            obtain ⟨rfl, rfl⟩ := hI'
            have hlen : (Src.list ap (nats pl)).items.length = pl.length := by simp [Src.items, nats]
            rw [hlen, List.take_length]
            walk_at "run"
            refine ⟨D', pl.map fun p => D sy p j, rfl, .inl ?_, ?_⟩
            · rw [upd_self, List.map_map]; rfl
            walk_at "run"
            refine ⟨rfl, fun a o h => upd_new hD' h, by walk_at "vlook", by walk_at "vlook", by walk_at "vlook", _, by walk_at "vlook", ?_⟩
            rw [List.any_map, List.any_eq_true]
            constructor
            · rintro ⟨p, hp, h⟩
              exact ⟨p, hp, .inl ⟨hk, hpl2 p hp, by omega, h⟩⟩
            · rintro ⟨p, hp, ⟨_, _, _, h⟩ | ⟨h, _⟩⟩
              · exact ⟨p, hp, h⟩
              · exact absurd hk h
          · obtain ⟨rfl, rfl⟩ := hI'
            obtain ⟨p, hp, rfl⟩ := map_get hu'
            have hpn := hpl2 p (List.mem_of_getElem? hp)
            obtain ⟨r, hr⟩ : ∃ r, rows[p]? = some r := ⟨rows[p]'(by omega), by simp⟩
            have b1 : baseOf (c.at C) la (.dict ks f) := q3
            have b2 : baseOf (c.at C) lr (.list (rows.map V.ref)) := e2
            have b3 : baseOf (c.at C) r (.arr ((List.range (toks.length + 1)).map fun j => V.bool (D sy p j))) := e4 p r hr
            have hrv : (rows.map V.ref)[((p : Nat) : Int).toNat]? = some (.ref r) := by rw [Int.toNat_natCast, List.getElem?_map, hr]; rfl
            have hjv : ((List.range (toks.length + 1)).map fun j => V.bool (D sy p j))[((j : Nat) : Int).toNat]? = some (.bool (D sy p j)) := by rw [Int.toNat_natCast]; simp [hj]
            walk_at "run"
            refine sub_dict (.inr b1) e1 ?_
            walk_at "run"
            refine sub_list (.inr b2) (by omega) (by omega) hrv ?_
            walk_at "run"
            refine sub_arr (.inr b3) (by omega) (by omega) hjv ?_
            refine ⟨rfl, ?_⟩
            rw [take_succ_get hp, List.map_append]; rfl
        · have hk : sy ∉ ks := fun q => by obtain ⟨lr, rows, e1, _⟩ := q4 sy q; rw [e1] at hb; cases hb
          have o4i : σ2 ap = some (.list ((pl.map fun (j : Nat) => (j : Int)).map V.int)) := by rw [← nats_ints]; exact o4'
          walk_at "run"
          walk_at "op"
          refine ⟨_, rfl, fun hb1 => ?_, fun hb1 => ?_⟩
          · have hj0 : 0 < j := by simpa using hb1
            have hjm : ((j : Nat) : Int) - 1 = ((j - 1 : Nat) : Int) := by omega
            walk_at "run"
            walk_at "op"
            walk_at "run"
            walk_at "op"
            refine ⟨_, rfl, fun hb2 => ?_, fun hb2 => ?_⟩
            · have hmem : j - 1 ∈ pl := by
                rw [hjm] at hb2
                obtain ⟨z, hz, e⟩ := List.mem_map.mp (of_decide_eq_true hb2)
                have : z = j - 1 := by omega
                exact this ▸ hz
              obtain ⟨tk, htk⟩ : ∃ tk, toks[j - 1]? = some tk := ⟨toks[j - 1]'(by omega), by simp⟩
              have htv : (toks.map V.str)[(((j : Nat) : Int) - 1).toNat]? = some (.str tk) := by rw [hjm, Int.toNat_natCast, List.getElem?_map, htk]; rfl
              walk_at "run"
              walk_at "op"
              refine sub_list (.inr q2) (by omega) (by omega) htv ?_
              walk_at "run"
              walk_at "op"
              walk_at "run"
              refine ⟨rfl, fun a o h => h, by walk_at "vlook", by walk_at "vlook", by walk_at "vlook", _, by walk_at "vlook", ?_⟩
              rw [beq_iff_eq]
              constructor
              · rintro rfl
                exact ⟨j - 1, hmem, .inr ⟨hk, htk, by omega⟩⟩
              · rintro ⟨k, _, ⟨h, _⟩ | ⟨_, h1, h2⟩⟩
                · exact absurd h hk
                · have : k = j - 1 := by omega
                  subst this
                  rw [htk] at h1; exact Option.some.inj h1
            · have hmem : j - 1 ∉ pl := fun hm => by
                rw [hjm] at hb2
                exact of_decide_eq_false hb2 (List.mem_map.mpr ⟨j - 1, hm, rfl⟩)
              walk_at "run"
              refine ⟨rfl, fun a o h => h, by walk_at "vlook", by walk_at "vlook", by walk_at "vlook", false, by walk_at "vlook", ?_⟩
              simp only [Bool.false_eq_true, false_iff]
              rintro ⟨k, h, ⟨h1, _⟩ | ⟨_, h1, h2⟩⟩
              · exact hk h1
              · have : k = j - 1 := by omega
                exact hmem (this ▸ h)
          · have hj0 : j = 0 := by
              have : ¬ (0 < j) := by simpa using hb1
              omega
            walk_at "run"
            refine ⟨rfl, fun a o h => h, by walk_at "vlook", by walk_at "vlook", by walk_at "vlook", false, by walk_at "vlook", ?_⟩
            simp only [Bool.false_eq_true, false_iff]
            rintro ⟨k, h, ⟨h1, _⟩ | ⟨_, h1, h2⟩⟩
            · exact hk h1
            · omega
      · rintro fl m₁ σ₄ ⟨rfl, hup4, v1, v2, v3, b, v4, hb⟩
        have o3'' := hup4 _ _ o3'
        dsimp only
        walk_at "run"
        refine ⟨b, rfl, fun hbt => ?_, fun hbt => ?_⟩
        · walk_at "run"
          refine ⟨am, rfl, ⟨_, .inl (hup4 _ _ o5')⟩, ?_⟩
          walk_at "run"
          refine ⟨_, hup4 _ _ o5', by simp [nats]; omega, rfl, ?_⟩
          walk_at "run"
          have kc : ∀ a v, σ2 a = some (.cell v) → upd σ₄ am (.list (nats mv ++ [V.int (j : Nat)])) a = some (.cell v) := fun a v h => upd_ne (fun q => by rw [q, o5'] at h; cases h) (hup4 _ _ h)
          refine ⟨by walk_at "vlook", by walk_at "vlook", by walk_at "vlook", kc _ _ o1', kc _ _ o2', ⟨_, kc _ _ o3'⟩, upd_ne hamp (hup4 _ _ o4'), mv ++ [j], by rw [upd_self]; simp [nats], by simp; omega, fun z => ?_⟩
          rw [List.mem_append, List.mem_singleton, hmv2]
          constructor
          · rintro (⟨h1, h2⟩ | rfl)
            · exact ⟨by omega, h2⟩
            · exact ⟨by omega, hb.mp hbt⟩
          · rintro ⟨h1, h2⟩
            rcases Nat.lt_succ_iff_lt_or_eq.mp h1 with q | rfl
            · exact .inl ⟨q, h2⟩
            · exact .inr rfl
        · walk_at "run"
          refine ⟨by walk_at "vlook", by walk_at "vlook", by walk_at "vlook", hup4 _ _ o1', hup4 _ _ o2', ⟨_, hup4 _ _ o3'⟩, hup4 _ _ o4', mv, hup4 _ _ o5', by omega, fun z => ?_⟩
          rw [hmv2]
          constructor
          · rintro ⟨h1, h2⟩; exact ⟨by omega, h2⟩
          · rintro ⟨h1, h2⟩
            rcases Nat.lt_succ_iff_lt_or_eq.mp h1 with q | rfl
            · exact ⟨q, h2⟩
            · rw [hb.mpr h2] at hbt; cases hbt
    · obtain ⟨v1, v2, v3, o1, o2, ⟨c3, o3⟩, o4, mv, o5, hmv1, hmv2⟩ := hI
      have hlen : (Src.range (toks.length + 1)).items.length = toks.length + 1 := by simp [Src.items]
      rw [hlen] at hmv1 hmv2
      walk_at "run"
      refine ⟨by walk_at "vlook", o1, ⟨_, o2⟩, ⟨_, o3⟩, am, mv, by walk_at "vlook", o5, hmv1, fun z hz => by have := ((hmv2 z).mp hz).1; omega, fun z => ?_⟩
      rw [take_succ_get hsy, Rch.snoc_iff, hmv2]
      constructor
      · rintro ⟨_, k, hk, h⟩; exact ⟨k, (hpl3 k).mp hk, h⟩
      · rintro ⟨k, hk, h⟩; exact ⟨by have := h.le.2; omega, k, (hpl3 k).mpr hk, h⟩
  · obtain ⟨v1, o1, _, _, ap, pl, v2, o4, hpl1, hpl2, hpl3⟩ := hI
    have hlen : (Src.list lb (bd.map V.str)).items.length = bd.length := by simp [Src.items]
    rw [hlen, List.take_length] at hpl3
    walk_at "run"
    exact ⟨_, rfl, ap, pl, rfl, o4, hpl1, hpl2, hpl3⟩

theorem Rch.cons {ks : List Str} {D : Str → Nat → Nat → Bool} {toks : List Str} {x : Str} {b : List Str} {i k j : Nat} (h : Mv ks D toks x i k) (h' : Rch ks D toks b k j) : Rch ks D toks (x :: b) i j := by
  induction h' with
  | nil => exact Rch.snoc (b := []) .nil h
  | snoc _ h2 ih => exact Rch.snoc (ih h) h2

def DSound (g : G) (toks : List Str) (D : Str → Nat → Nat → Bool) : Prop := ∀ k i j, D k i j = true → ∃ c, Sp g toks [k] i j c
def DClosed (g : G) (toks : List Str) (D : Str → Nat → Nat → Bool) : Prop := ∀ h bd i j, (h, bd) ∈ g → i ≤ toks.length → Rch (headsOf g) D toks bd i j → D h i j = true
theorem sound_rch {g : G} {toks : List Str} {D : Str → Nat → Nat → Bool} (hD : DSound g toks D) {b : List Str} {i j : Nat} (h : Rch (headsOf g) D toks b i j) (hi : i ≤ toks.length) : ∃ c, Sp g toks b i j c := by
  induction h with
  | nil => exact ⟨0, .nil hi⟩
  | snoc h1 h2 ih =>
    obtain ⟨c1, s1⟩ := ih hi
    rcases h2 with ⟨_, _, _, h⟩ | ⟨h, h3, rfl⟩
    · obtain ⟨c2, s2⟩ := hD _ _ _ h
      exact ⟨_, s1.append s2⟩
    · have hl := (List.getElem?_eq_some_iff.mp h3).1
      exact ⟨_, s1.append (Sp.token (fun q => h (((headsOf_spec g).2 _).mpr q)) h3 hl)⟩
theorem rch_complete {g : G} {toks : List Str} {D : Str → Nat → Nat → Bool} (hD : DClosed g toks D) {b : List Str} {i j c : Nat} (h : Sp g toks b i j c) : Rch (headsOf g) D toks b i j := by
  induction h with
  | nil _ => exact .nil
  | tok h1 h2 _ ih => exact Rch.cons (.inr ⟨fun q => h1 (((headsOf_spec g).2 _).mp q), h2, rfl⟩) ih
  | @head x r b i k j c d h1 h2 h3 i1 i2 =>
    have l1 := h2.le
    have l2 := h3.le
    exact Rch.cons (.inl ⟨((headsOf_spec g).2 x).mpr ⟨r, h1⟩, by omega, by omega, hD x r i k h1 (by omega) i1⟩) i2
theorem table_iff {g : G} {toks : List Str} {D : Str → Nat → Nat → Bool} (h1 : DSound g toks D) (h2 : DClosed g toks D) {k : Str} {i j : Nat} (hk : IsHead g k) : D k i j = true ↔ ∃ c, Sp g toks [k] i j c := by
  constructor
  · exact h1 k i j
  · rintro ⟨c, h⟩
    rcases h.one with ⟨hn, _⟩ | ⟨r, c', hr, hs, _⟩
    · exact absurd hk hn
    · have := hs.le
      exact h2 k r i j hr (by omega) (rch_complete h2 hs)

theorem nodup_inj {α : Type} {d : α} {l : List α} (h : l.Nodup) {i j : Nat} (hi : i < l.length) (hj : j < l.length) (e : (some l[i]).getD d = (some l[j]).getD d) : i = j := by
  have hp : ∀ a b (ha : a < l.length) (hb : b < l.length), a < b → l[a] ≠ l[b] := List.pairwise_iff_getElem.mp h
  simp only [Option.getD_some] at e
  rcases Nat.lt_trichotomy i j with q | q | q
  · exact absurd e (hp i j hi hj q)
  · exact q
  · exact absurd e.symm (hp j i hj hi q)
structure TblS (σ : Hp) (lt : Addr) (ks : List Str) (n : Nat) (f : Str → Option V) (lr : Str → Addr) (rw : Str → Nat → Addr) (D : Str → Nat → Nat → Bool) : Prop where
  tab : σ lt = some (.dict ks f)
  val : ∀ k, k ∈ ks → f k = some (.ref (lr k))
  no : ∀ k, k ∉ ks → f k = none
  lists : ∀ k, k ∈ ks → σ (lr k) = some (.list ((List.range (n + 1)).map fun i => V.ref (rw k i)))
  arrs : ∀ k i, k ∈ ks → i < n + 1 → σ (rw k i) = some (.arr ((List.range (n + 1)).map fun j => V.bool (D k i j)))
  inj : ∀ k k' i i', k ∈ ks → k' ∈ ks → i < n + 1 → i' < n + 1 → rw k i = rw k' i' → k = k' ∧ i = i'
theorem TblS.up {σ σ' : Hp} {lt : Addr} {ks : List Str} {n : Nat} {f : Str → Option V} {lr : Str → Addr} {rw : Str → Nat → Addr} {D : Str → Nat → Nat → Bool} (h : ∀ a o, σ a = some o → σ' a = some o) (t : TblS σ lt ks n f lr rw D) : TblS σ' lt ks n f lr rw D :=
  { t with tab := h _ _ t.tab, lists := fun k hk => h _ _ (t.lists k hk), arrs := fun k i hk hi => h _ _ (t.arrs k i hk hi) }
theorem TblS.toP {σ : Hp} {lt : Addr} {ks : List Str} {n : Nat} {f : Str → Option V} {lr : Str → Addr} {rw : Str → Nat → Addr} {D : Str → Nat → Nat → Bool} (t : TblS σ lt ks n f lr rw D) : TblP (own σ) lt ks n D := by
  refine ⟨f, t.tab, fun k hk => ⟨lr k, (List.range (n + 1)).map (rw k), t.val k hk, ?_, by simp, fun i r e => ?_⟩, t.no⟩
  · have := t.lists k hk
    show σ (lr k) = _
    rw [this, List.map_map]; rfl
  · obtain ⟨z, hz, rfl⟩ := map_get e
    obtain ⟨h1, h2⟩ := List.getElem?_eq_some_iff.mp hz
    simp at h1 h2
    subst h2
    exact t.arrs k i hk h1
theorem TblS.add {σ σ' : Hp} {lt l : Addr} {ks : List Str} {n : Nat} {f : Str → Option V} {lr : Str → Addr} {rw : Str → Nat → Addr} {x : Str} {as : List Addr} (t : TblS σ lt ks n f lr rw fun _ _ _ => false) (hx : x ∉ ks) (hup : ∀ a o, σ a = some o → σ' a = some o)
    (hl : σ' l = some (.list (as.map V.ref))) (hlen : as.length = n + 1) (hnd : as.Nodup) (hnew : ∀ a ∈ as, σ a = none ∧ σ' a = some (.arr (List.replicate (n + 1) (V.bool false)))) :
    TblS (upd σ' lt (.dict (ks ++ [x]) (upd f x (.ref l)))) lt (ks ++ [x]) n (upd f x (.ref l)) (fun k => if k = x then l else lr k) (fun k i => if k = x then as.getD i 0 else rw k i) fun _ _ _ => false := by
  have ht := hup _ _ t.tab
  have mem : ∀ k, k ∈ ks ++ [x] ↔ k ∈ ks ∨ k = x := fun k => by simp
  have hrep : List.replicate (n + 1) (V.bool false) = (List.range (n + 1)).map fun _ => V.bool false := by
    apply List.ext_getElem? ; intro i
    simp only [List.getElem?_replicate, List.getElem?_map]
    by_cases h : i < n + 1
    · simp [h]
    · simp [h]
  have hgd : ∀ i, i < n + 1 → as.getD i 0 ∈ as := fun i hi => by
    rw [List.getD_eq_getElem?_getD, List.getElem?_eq_getElem (by omega)]
    exact List.getElem_mem _
  have hol : ∀ k i, k ∈ ks → i < n + 1 → rw k i ∉ as := fun k i hk hi hm => by
    have := t.arrs k i hk hi
    rw [(hnew _ hm).1] at this; cases this
  refine ⟨upd_self, fun k hk => ?_, fun k hk => ?_, fun k hk => ?_, fun k i hk hi => ?_, fun k k' i i' hk hk' hi hi' e => ?_⟩
  · by_cases e : k = x
    · subst e; simp [upd]
    · simp only [upd, e, if_false]; exact t.val k (((mem k).mp hk).resolve_right e)
  · rw [mem] at hk
    exact upd_ne (fun e => hk (.inr e)) (t.no k fun q => hk (.inl q))
  · by_cases e : k = x
    · subst e
      simp only [if_true]
      refine upd_ne (fun q => by rw [q, ht] at hl; cases hl) (hl.trans ?_)
      congr 1; congr 1
      apply List.ext_getElem? ; intro i
      simp only [List.getElem?_map]
      by_cases h : i < n + 1
      · rw [List.getElem?_eq_getElem (by omega : i < as.length)]
        simp [h, List.getD_eq_getElem?_getD, List.getElem?_eq_getElem (by omega : i < as.length)]
      · rw [List.getElem?_eq_none (by omega : as.length ≤ i), List.getElem?_eq_none (by simp; omega)]; rfl
    · simp only [e, if_false]
      have h1 := hup _ _ (t.lists k (((mem k).mp hk).resolve_right e))
      exact upd_ne (fun q => by rw [q, ht] at h1; cases h1) h1
  · by_cases e : k = x
    · simp only [e, if_true]
      have h1 := (hnew _ (hgd i hi)).2
      rw [hrep] at h1
      exact upd_ne (fun q => by rw [q, ht] at h1; cases h1) h1
    · simp only [e, if_false]
      have h1 := hup _ _ (t.arrs k i (((mem k).mp hk).resolve_right e) hi)
      exact upd_ne (fun q => by rw [q, ht] at h1; cases h1) h1
  · by_cases e1 : k = x
    · by_cases e2 : k' = x
      · simp only [e1, if_true, e2] at e
        rw [List.getD_eq_getElem?_getD, List.getD_eq_getElem?_getD, List.getElem?_eq_getElem (by omega : i < as.length), List.getElem?_eq_getElem (by omega : i' < as.length)] at e
        exact ⟨by rw [e1, e2], nodup_inj hnd (by omega) (by omega) e⟩
      · simp only [e1, if_true, e2, if_false] at e
        exact absurd (e ▸ hgd i hi) (hol k' i' (((mem k').mp hk').resolve_right e2) hi')
    · by_cases e2 : k' = x
      · simp only [e1, if_false, e2, if_true] at e
        exact absurd (e ▸ hgd i' hi') (hol k i (((mem k).mp hk).resolve_right e1) hi)
      · simp only [e1, if_false, e2] at e
        exact t.inj k k' i i' (((mem k).mp hk).resolve_right e1) (((mem k').mp hk').resolve_right e2) hi hi' e
def put3 (D : Str → Nat → Nat → Bool) (h : Str) (i j : Nat) : Str → Nat → Nat → Bool := fun h' i' j' => if h' = h ∧ i' = i ∧ j' = j then true else D h' i' j'
theorem TblS.put {σ : Hp} {lt : Addr} {ks : List Str} {n : Nat} {f : Str → Option V} {lr : Str → Addr} {rw : Str → Nat → Addr} {D : Str → Nat → Nat → Bool} {h : Str} {i j : Nat} (t : TblS σ lt ks n f lr rw D) (hh : h ∈ ks) (hi : i < n + 1) (hj : j < n + 1) :
    TblS (upd σ (rw h i) (.arr (((List.range (n + 1)).map fun j => V.bool (D h i j)).set j (.bool true)))) lt ks n f lr rw (put3 D h i j) := by
  have ha := t.arrs h i hh hi
  refine ⟨upd_ne (fun q => by have := t.tab; rw [q, ha] at this; cases this) t.tab, t.val, t.no, fun k hk => ?_, fun k i' hk hi' => ?_, t.inj⟩
  · have := t.lists k hk
    exact upd_ne (fun q => by rw [q, ha] at this; cases this) this
  · by_cases e : rw k i' = rw h i
    · obtain ⟨rfl, rfl⟩ := t.inj k h i' i hk hh hi' hi e
      rw [upd_self]
      congr 1; congr 1
      apply List.ext_getElem? ; intro z
      rw [List.getElem?_set]
      by_cases ez : j = z
      · subst ez
        simp [put3, hj]
      · simp only [ez, if_false, List.getElem?_map]
        by_cases hz : z < n + 1
        · have : ¬ z = j := fun q => ez q.symm
          simp [hz, put3, this]
        · simp [hz]
    · refine upd_ne e ((t.arrs k i' hk hi').trans ?_)
      congr 1; congr 1
      apply List.map_congr_left
      intro z _
      have : ¬ (k = h ∧ i' = i ∧ z = j) := fun ⟨q1, q2, _⟩ => e (by rw [q1, q2])
      simp [put3, this]

def allPos (ks : List Str) (n : Nat) : List (Str × Nat × Nat) := ks.flatMap fun k => (List.range (n + 1)).flatMap fun i => (List.range (n + 1)).map fun j => (k, i, j)
def falses (ks : List Str) (n : Nat) (D : Str → Nat → Nat → Bool) : Nat := (allPos ks n).countP fun p => !D p.1 p.2.1 p.2.2
theorem countP_lt {α : Type} {p q : α → Bool} {l : List α} (h : ∀ x ∈ l, q x = true → p x = true) (hx : ∃ x ∈ l, p x = true ∧ q x = false) : l.countP q < l.countP p := by
  induction l with
  | nil => obtain ⟨_, m, _⟩ := hx; cases m
  | cons y l ih =>
    have le : l.countP q ≤ l.countP p := List.countP_mono_left fun x hx => h x (List.mem_cons_of_mem _ hx)
    obtain ⟨x, m, h1, h2⟩ := hx
    rw [List.countP_cons, List.countP_cons]
    rcases List.mem_cons.mp m with rfl | m
    · simp [h1, h2]; omega
    · have := ih (fun x hx => h x (List.mem_cons_of_mem _ hx)) ⟨x, m, h1, h2⟩
      have hy := h y List.mem_cons_self
      by_cases hq : q y = true
      · simp [hq, hy hq]; omega
      · simp [hq]; split <;> omega
theorem falses_put {ks : List Str} {n : Nat} {D : Str → Nat → Nat → Bool} {h : Str} {i j : Nat} (hh : h ∈ ks) (hi : i < n + 1) (hj : j < n + 1) (hf : D h i j = false) : falses ks n (put3 D h i j) < falses ks n D := by
  refine countP_lt (fun p _ hq => ?_) ⟨(h, i, j), ?_, by simp [hf], by simp [put3]⟩
  · simp only [put3] at hq
    split at hq
    · cases hq
    · exact hq
  · exact List.mem_flatMap.mpr ⟨h, hh, List.mem_flatMap.mpr ⟨i, List.mem_range.mpr hi, List.mem_map.mpr ⟨j, List.mem_range.mpr hj, rfl⟩⟩⟩

inductive I10b (g : G) (toks : List Str) (ag lt la L : Addr) (f : Str → Option V) (lr : Str → Addr) (rw : Str → Nat → Addr) (k : Nat) (m : Vars) (σ : Hp) : Prop
  | mk (D : Str → Nat → Nat → Bool) (ch : Bool) (h1 : m (Str.ofString "g") = some (.ref ag)) (h2 : m (Str.ofString "tokens") = some (.ref lt)) (h3 : m (Str.ofString "tables") = some (.ref la)) (h4 : m (Str.ofString "changed") = some (.bool ch)) (h5 : σ (L + 1) = some (.cell (some (.int (toks.length : Nat))))) (h6 : TblS σ la (headsOf g) toks.length f lr rw D) (h7 : DSound g toks D) (h8 : ch = true → k = falses (headsOf g) toks.length D + 1) (h9 : ch = false → DClosed g toks D)
inductive I10c (g : G) (toks : List Str) (ag lt la L : Addr) (f : Str → Option V) (lr : Str → Addr) (rw : Str → Nat → Addr) (D : Str → Nat → Nat → Bool) (z : Nat) (m : Vars) (σ : Hp) : Prop
  | mk (D' : Str → Nat → Nat → Bool) (ch : Bool) (h1 : m (Str.ofString "g") = some (.ref ag)) (h2 : m (Str.ofString "tokens") = some (.ref lt)) (h3 : m (Str.ofString "tables") = some (.ref la)) (h4 : m (Str.ofString "changed") = some (.bool ch)) (h5 : σ (L + 1) = some (.cell (some (.int (toks.length : Nat))))) (h6 : TblS σ la (headsOf g) toks.length f lr rw D') (h7 : DSound g toks D') (h8 : ch = true → falses (headsOf g) toks.length D' < falses (headsOf g) toks.length D)
    (h9 : ch = false → D' = D ∧ ∀ x ∈ g.take z, ∀ i j, i ≤ toks.length → Rch (headsOf g) D toks x.2 i j → D x.1 i j = true)
inductive I10d (g : G) (toks : List Str) (ag lt la L : Addr) (f : Str → Option V) (lr : Str → Addr) (rw : Str → Nat → Addr) (D : Str → Nat → Nat → Bool) (z : Nat) (r : Addr) (hd : Str) (bd : List Str) (i : Nat) (m : Vars) (σ : Hp) : Prop
  | mk (D' : Str → Nat → Nat → Bool) (ch : Bool) (h1 : m (Str.ofString "g") = some (.ref ag)) (h2 : m (Str.ofString "tokens") = some (.ref lt)) (h3 : m (Str.ofString "tables") = some (.ref la)) (h4 : m (Str.ofString "rule") = some (.ref r)) (h5 : m (Str.ofString "changed") = some (.bool ch)) (h6 : σ (L + 1) = some (.cell (some (.int (toks.length : Nat))))) (h7 : TblS σ la (headsOf g) toks.length f lr rw D') (h8 : DSound g toks D') (h9 : ch = true → falses (headsOf g) toks.length D' < falses (headsOf g) toks.length D)
    (h10 : ch = false → D' = D ∧ (∀ x ∈ g.take z, ∀ i j, i ≤ toks.length → Rch (headsOf g) D toks x.2 i j → D x.1 i j = true) ∧ ∀ i', i' < i → ∀ j, Rch (headsOf g) D toks bd i' j → D hd i' j = true)
inductive I10e (g : G) (toks : List Str) (ag lt la L : Addr) (f : Str → Option V) (lr : Str → Addr) (rw : Str → Nat → Addr) (D : Str → Nat → Nat → Bool) (r : Addr) (hd : Str) (i : Nat) (ch : Bool) (pa : Addr) (pl : List Nat) (y : Nat) (m : Vars) (σ : Hp) : Prop
  | mk (D3 : Str → Nat → Nat → Bool) (ch3 : Bool) (h1 : m (Str.ofString "g") = some (.ref ag)) (h2 : m (Str.ofString "tokens") = some (.ref lt)) (h3 : m (Str.ofString "tables") = some (.ref la)) (h4 : m (Str.ofString "rule") = some (.ref r)) (h5 : m (Str.ofString "i") = some (.int (i : Nat))) (h6 : m (Str.ofString "changed") = some (.bool ch3)) (h7 : σ (L + 1) = some (.cell (some (.int (toks.length : Nat))))) (h8 : σ pa = some (.list (nats pl))) (h9 : TblS σ la (headsOf g) toks.length f lr rw D3) (h10 : DSound g toks D3)
    (h11 : ch3 = true → falses (headsOf g) toks.length D3 < falses (headsOf g) toks.length D) (h12 : ch3 = false → ch = false ∧ D3 = D ∧ ∀ j ∈ pl.take y, D hd i j = true)
theorem spec_span_tables (M : Mod) (hM : Ok M) (g : G) (toks : List Str) (ag lt : Addr) (hg : (symsOf g).length ≤ 28) (hn : toks.length ≤ 900) :
    Spec M 3 (Str.ofString "span_tables") [.ref ag, .ref lt] (fun P => GramP P ag g ∧ StrL P lt toks) (fun v P => ∃ a D, v = .ref a ∧ TblP P a (headsOf g) toks.length D ∧ DSound g toks D ∧ DClosed g toks D) := by
  have hgl : g.length ≤ 28 := Nat.le_trans (syms_len g) hg
  have hhl := headsOf_len g
  obtain ⟨hnd, hmem⟩ := headsOf_spec g
  refine mkSpecC hM.p 12 [Str.ofString "g", Str.ofString "tokens"] (upd (upd (fun _ => none) (Str.ofString "tokens") (.ref lt)) (Str.ofString "g") (.ref ag)) (fun L => upd (fun _ => none) (L + 1) (.cell none)) (by rfl)
    (fun vals h => by obtain ⟨a, b, rfl⟩ := two_val h; rfl) (fun vals h x v e => ?_) (fun L vals h a o e => ?_)
    (fun vals pm code doc h => by obtain ⟨a, b, rfl⟩ := two_val h; rfl) (by rfl) (by rfl) (by rfl) ?_ ?_ fun c L fa code I hpre Qf hQf => ?_
  · obtain ⟨a1, a2, rfl⟩ := two_val h
    simp only [List.map_cons, List.cons.injEq] at h
    unfold upd at e
    split at e
    · rename_i hx; subst hx; cases e; exact ⟨a1, by rfl, h.1⟩
    · split at e
      · rename_i hx; subst hx; cases e; exact ⟨a2, by rfl, h.2.1⟩
      · cases e
  · obtain ⟨a1, a2, rfl⟩ := two_val h
    unfold upd at e
    split at e
    · rename_i hx; subst hx; cases e; exact ⟨Str.ofString "n", by rfl, by rfl⟩
    · cases e
  · rintro A B h ⟨q1, q2⟩; exact ⟨GramP.mono A B h q1, h _ _ q2⟩
  · rintro v A B h ⟨a, D, e, q, k⟩; exact ⟨a, D, e, TblP.mono A B h q, k⟩
  have hpre' := hpre.1
  obtain ⟨⟨rs, q1, q2, q3⟩, q4⟩ := hpre
  have hgram : ∀ σ, GramP (Sees c σ) ag g := fun σ => GramP.mono _ _ (fun a o h => .inr h) hpre'
  have ho := I.env
  dsimp only at ho I ⊢
  walk_at "run"
  refine call_len hM I (by rfl) ?_
  walk_at "run"
  refine ⟨lt, toks.map V.str, rfl, .inl (.inr q4), by simp; omega, none, upd_self, ?_⟩
  rw [List.length_map]
  walk_at "run"
  refine new_dict hM I fun la hla => ?_
  have hcl : la ≠ L + 1 := Ne.symm (ne_of_new hla upd_self)
  walk_at "stp"
  refine for_ I.room.1 (fun v => .list v.addr ((headsOf g).map V.str)) (fun v i m σ => And6 (m (Str.ofString "g") = some (.ref ag)) (m (Str.ofString "tokens") = some (.ref lt)) (m (Str.ofString "tables") = some (.ref la)) (σ (L + 1) = some (.cell (some (.int (toks.length : Nat))))) (σ v.addr = some (.list ((headsOf g).map V.str))) (∃ f lr rw, TblS σ la ((headsOf g).take i) toks.length f lr rw fun _ _ _ => false))
      ?_ (fun _ i m σ h => .inl h.h5) (fun v i m σ u hI hu val hval Qz hQz => ?_) (fun v m σ hI => ?_)
  · refine call_def I (by rfl) (M.fn hM.p 0 (by rfl)) ?_
    walk_at "run"
    refine ⟨_, _, _, spec_heads_of M hM g ag (by omega), by decide, hgram _, fun v σ₃ hext hR => ?_⟩
    obtain ⟨lh, rfl, oh⟩ := hR
    refine ⟨⟨rfl, .inl oh⟩, by walk_at "vlook", by walk_at "vlook", by walk_at "vlook", hext _ _ (upd_new hla upd_self), oh, fun _ => none, fun _ => 0, fun _ _ => 0, hext _ _ upd_self, fun k hk => ?_, fun k _ => rfl, fun k hk => ?_, fun k i hk => ?_, fun k k' i i' hk => ?_⟩ <;> simp at hk
  · obtain ⟨v1, v2, v3, o1, o2, f, lr, rw, hT⟩ := hI
    obtain ⟨x, hx, rfl⟩ := map_get hu
    have hxn : x ∉ (headsOf g).take i := fun hm => by
      have h1 := hnd
      rw [← List.take_append_drop i (headsOf g), drop_get hx, List.nodup_append] at h1
      exact h1.2.2 x hm x List.mem_cons_self rfl
    refine asg_local ho (by rfl) hval ?_
    walk_at "stp"
    refine assign_sub ?_ (by rfl)
    refine listcomp I.room.1 ho (cl := [(Str.ofString "n", L + 1)]) (fun _ => .range (toks.length + 1)) (fun _ i ys σ' => ∃ as : List Addr, ys = as.map V.ref ∧ as.length = i ∧ as.Nodup ∧ (∀ a ∈ as, σ a = none ∧ σ' a = some (.arr (List.replicate (toks.length + 1) (V.bool false)))) ∧ ∀ a o, σ a = some o → σ' a = some o)
      ?_ (fun _ i ys σ' _ => trivial) (fun _ i ys σ' u C hI' hu' hoC => ?_) (by rfl) (by decide) (by rfl) (by decide) (by decide)
    · refine call_range hM I (by rfl) ?_
      walk_at "run"
      walk_at "op"
      walk_at "run"
      refine ⟨_, rfl, fun rr hrr => ⟨⟨rr, rfl, .inl ?_, by omega⟩, ⟨[], rfl, rfl, .nil, fun _ h => (nomatch h), fun a o h => upd_new hrr h⟩, by simp [Src.items]; omega, fun ys σ₂ D' hI' hD' => ?_⟩⟩
      · rw [upd_self]; simp
      · obtain ⟨as, rfl, hal, hand, hanew, hup⟩ := hI'
        have hlen : (Src.range (toks.length + 1)).items.length = toks.length + 1 := by simp [Src.items]
        rw [hlen] at hal
        walk_at "run"
        intro val oval ival e1 e2 e3
        refine set_dict e2 e3 e1 (upd_new hD' (hup _ _ hT.tab)) (by have : ((headsOf g).take i).length ≤ (headsOf g).length := by rw [List.length_take]; exact Nat.min_le_right _ _
                                                                    omega) ?_
        walk_at "run"
        have hadd := hT.add (σ' := upd σ₂ D' (.list (as.map V.ref))) (l := D') hxn (fun a o h => upd_new hD' (hup a o h)) upd_self hal hand (fun a ha => ⟨(hanew a ha).1, upd_new hD' (hanew a ha).2⟩)
        rw [addKey_new hxn, take_succ_get hx]
        refine ⟨by walk_at "vlook", by walk_at "vlook", by walk_at "vlook", upd_ne (Ne.symm hcl) (upd_new hD' (hup _ _ o1)), upd_ne (fun q => by rw [q, hT.tab] at o2; cases o2) (upd_new hD' (hup _ _ o2)), _, _, _, hadd⟩
    · obtain ⟨as, rfl, hal, hand, hanew, hup⟩ := hI'
      have o1' : σ' (L + 1) = some (.cell (some (.int (toks.length : Nat)))) := hup _ _ o1
      walk_at "run"
      refine ⟨by simp, fun r0 hr0 => ?_⟩
      have o1'' : upd σ' r0 (.list [V.bool false]) (L + 1) = some (.cell (some (.int (toks.length : Nat)))) := upd_new hr0 o1'
      walk_at "run"
      walk_at "op"
      refine op_mull (n := toks.length + 1) (.inl upd_self) (by omega) fun r hr => ?_
      have hup2 : ∀ a o, σ' a = some o → upd (upd σ' r0 (.list [V.bool false])) r (.arr (List.replicate (toks.length + 1) (V.bool false))) a = some o := fun a o h => upd_new hr (upd_new hr0 h)
      have hrσ' : σ' r = none := by
        cases e : σ' r with
        | none => rfl
        | some o => rw [upd_new hr0 e] at hr; cases hr
      refine ⟨as ++ [r], by rw [List.map_append]; rfl, by simp [hal], ?_, fun a ha => ?_, fun a o h => hup2 _ _ (hup a o h)⟩
      · rw [List.nodup_append]
        refine ⟨hand, by simp, ?_⟩
        intro a ha b hb
        rw [List.mem_singleton] at hb
        subst hb
        exact ne_of_new hrσ' (hanew a ha).2
      · rcases List.mem_append.mp ha with q | q
        · exact ⟨(hanew a q).1, hup2 _ _ (hanew a q).2⟩
        · rw [List.mem_singleton.mp q]
          refine ⟨?_, upd_self⟩
          cases e : σ r with
          | none => rfl
          | some o => rw [hup r o e] at hrσ'; cases hrσ'
  · obtain ⟨v1, v2, v3, o1, _, f, lr, rw, hT⟩ := hI
    have hlen : (Src.list v.addr ((headsOf g).map V.str)).items.length = (headsOf g).length := by simp [Src.items]
    rw [hlen, List.take_length] at hT
    walk_at "stp"
    walk_at "stp"
    walk_at "stp"
    walk_at "stp"
    refine while_ (I10b g toks ag lt la L f lr rw) _
      ⟨_, true, by walk_at "vlook", by walk_at "vlook", by walk_at "vlook", by walk_at "vlook", o1, hT, fun k i j h => (nomatch h), fun _ => rfl, fun h => (nomatch h)⟩ (fun k m σ hI Qz hQz => ?_)
    clear v1 v2 v3 o1 hT
    obtain ⟨D, ch, v1, v2, v3, v4, o1, hT, hS, hk1, hk2⟩ := hI
    walk_at "run"
    refine ⟨ch, rfl, fun hch => ?_, fun hch => ?_⟩
    · subst hch
      have hk1 := hk1 rfl
      walk_at "stp"
      walk_at "stp"
      walk_at "stp"
      walk_at "stp"
      refine for_ I.room.1 (fun _ => .list ag (rs.map V.ref)) (fun _ => I10c g toks ag lt la L f lr rw D)
        ?_ (fun _ i m σ _ => .inr q1) (fun _ z m σ u hI hu val hval Qz hQz => ?_) (fun _ m σ hI => ?_)
      · walk_at "stp"
        exact ⟨⟨rfl, .inr q1⟩, D, false, by walk_at "vlook", by walk_at "vlook", by walk_at "vlook", by walk_at "vlook", o1, hT, hS, fun h => (nomatch h), fun _ => ⟨rfl, fun _ h => by simp at h⟩⟩
      · clear v1 v2 v3 v4 o1 hT
        obtain ⟨D', ch, v1, v2, v3, v4, o1, hT, hS', j1, j2⟩ := hI
        obtain ⟨r, hr, rfl⟩ := map_get hu
        obtain ⟨⟨hd, bd⟩, hx⟩ := get_same q2 hr
        obtain ⟨b, k1, k2⟩ := q3 z r _ hr hx
        have hmg : (hd, bd) ∈ g := List.mem_of_getElem? hx
        have hhd : hd ∈ headsOf g := (hmem hd).mpr ⟨bd, hmg⟩
        have hbl : bd.length + 1 ≤ (symsOf g).length := body_len hmg
        refine asg_local ho (by rfl) hval ?_
        walk_at "stp"
        refine for_ I.room.1 (fun _ => .range (toks.length + 1)) (fun _ => I10d g toks ag lt la L f lr rw D z r hd bd)
          ?_ (fun _ p m σ _ => trivial) (fun _ i m σ u hI hu val hval Qz hQz => ?_) (fun _ m σ hI => ?_)
        · refine call_range hM I (by rfl) ?_
          walk_at "run"
          walk_at "op"
          walk_at "run"
          refine ⟨_, rfl, fun rr hrr => ⟨⟨rr, rfl, .inl ?_, by omega⟩, D', ch, by walk_at "vlook", by walk_at "vlook", by walk_at "vlook", by walk_at "vlook", by walk_at "vlook", upd_new hrr o1, hT.up (fun a o h => upd_new hrr h), hS', j1, fun h => ⟨(j2 h).1, (j2 h).2, fun _ h => absurd h (Nat.not_lt_zero _)⟩⟩⟩
          rw [upd_self]; simp
        · clear v1 v2 v3 v4 o1 hT hS' j1 j2
          obtain ⟨D', ch, v1, v2, v3, v5, v4, o1, hT, hS', j1, j2⟩ := hI
          obtain ⟨hi, rfl⟩ : i < toks.length + 1 ∧ V.int (i : Nat) = u := by
            obtain ⟨z, hz, rfl⟩ := map_get hu
            obtain ⟨h1, h2⟩ := List.getElem?_eq_some_iff.mp hz
            simp at h1 h2
            exact ⟨by omega, by rw [← h2]⟩
          refine asg_local ho (by rfl) hval ?_
          walk_at "stp"
          refine forL I.room.1 ?_
          refine call_def I (by rfl) (M.fn hM.p 11 (by rfl)) ?_
          walk_at "run"
          walk_at "op"
          walk_at "run"
          refine ⟨_, _, _, spec_places_after M hM (headsOf g) D' bd toks i b lt la (by omega) hn (by omega), by decide, ⟨.inr k2, .inr q4, TblP.mono _ _ (fun a o h => .inl h) hT.toP⟩, fun v σ₃ hext hR => ?_⟩
          obtain ⟨pa, pl, rfl, w1, hpl1, hpl2, hpl3⟩ := hR
          have w1 : σ₃ pa = some (.list (nats pl)) := w1
          have hsp : ∀ j, j ∈ pl → ∃ c, Sp g toks [hd] i j c := fun j hj => by
            obtain ⟨c, s⟩ := sound_rch hS' ((hpl3 j).mp hj) (by omega)
            exact ⟨_, Sp.of_rule hmg s⟩
          refine ⟨.list pa (nats pl), I10e g toks ag lt la L f lr rw D r hd i ch pa pl,
            ⟨rfl, .inl w1⟩, ⟨D', ch, by walk_at "vlook", by walk_at "vlook", by walk_at "vlook", by walk_at "vlook", by walk_at "vlook", by walk_at "vlook", hext _ _ o1, w1, hT.up hext, hS', j1, fun h => ⟨h, (j2 h).1, fun _ h => by simp at h⟩⟩, fun y m σ h => ?_, fun y m σ u hI hu val hval Qz hQz => ?_, fun m σ hI => ?_⟩
          · obtain ⟨_, _, _, _, _, _, _, _, _, h, _⟩ := h
            exact .inl h
          · clear v1 v2 v3 v4 v5 o1 hT
            obtain ⟨D3, ch3, v1, v2, v3, v5, v6, v4, o1, o2, hT, hS3, l1, l2⟩ := hI
            obtain ⟨j, hj, rfl⟩ := map_get hu
            have hjm : j ∈ pl := List.mem_of_getElem? hj
            have hjn := hpl2 j hjm
            refine asg_local ho (by rfl) hval ?_
            have hlist := hT.lists hd hhd
            have harr := hT.arrs hd i hhd hi
            have ht1 : ((List.range (toks.length + 1)).map fun i => V.ref (rw hd i))[((i : Nat) : Int).toNat]? = some (.ref (rw hd i)) := by simp [hi]
            have ht2 : ((List.range (toks.length + 1)).map fun j => V.bool (D3 hd i j))[((j : Nat) : Int).toNat]? = some (.bool (D3 hd i j)) := by
              have : j < toks.length + 1 := by omega
              simp [this]
            have hi0 : (0 : Int) ≤ ((i : Nat) : Int) := by omega
            have hi63 : ((i : Nat) : Int) < 2 ^ 63 := by omega
            have hj0 : (0 : Int) ≤ ((j : Nat) : Int) := by omega
            have hj63 : ((j : Nat) : Int) < 2 ^ 63 := by omega
            walk_at "run"
            walk_at "op"
            refine sub_dict (.inl hT.tab) (hT.val hd hhd) ?_
            walk_at "run"
            refine sub_list (.inl hlist) hi0 hi63 ht1 ?_
            walk_at "run"
            refine sub_arr (.inl harr) hj0 hj63 ht2 ?_
            walk_at "run"
            refine ⟨_, rfl, fun hbt => ?_, fun hbt => ?_⟩
            · have hDf : D3 hd i j = false := by simpa using hbt
              walk_at "stp"
              refine assign_sub ?_ (by rfl)
              walk_at "run"
              walk_at "op"
              refine sub_dict (.inl hT.tab) (hT.val hd hhd) ?_
              walk_at "run"
              refine sub_list (.inl hlist) hi0 hi63 ht1 ?_
              walk_at "run"
              intro val oval ival e1 e2 e3
              refine set_arr e2 e3 e1 harr hj0 hj63 (by simp; omega) ?_
              walk_at "run"
              have hjl : j < toks.length + 1 := by omega
              have hput := hT.put (h := hd) (i := i) (j := j) hhd hi hjl
              rw [Int.toNat_natCast]
              refine ⟨_, true, by walk_at "vlook", by walk_at "vlook", by walk_at "vlook", by walk_at "vlook", by walk_at "vlook", by walk_at "vlook", upd_ne (fun q => by rw [q, harr] at o1; cases o1) o1, upd_ne (fun q => by rw [q, harr] at o2; cases o2) o2, hput, fun k' i' j' h => ?_, fun _ => ?_, fun h => (nomatch h)⟩
              · simp only [put3] at h
                split at h
                · rename_i hq
                  obtain ⟨rfl, rfl, rfl⟩ := hq
                  exact hsp _ hjm
                · exact hS3 _ _ _ h
              · have hlt := falses_put (ks := headsOf g) hhd hi hjl hDf
                cases ch3 with
                | true => exact Nat.lt_trans hlt (l1 rfl)
                | false => obtain ⟨_, rfl, _⟩ := l2 rfl; exact hlt
            · have hDt : D3 hd i j = true := by simpa using hbt
              walk_at "run"
              refine ⟨D3, ch3, by walk_at "vlook", by walk_at "vlook", by walk_at "vlook", by walk_at "vlook", by walk_at "vlook", by walk_at "vlook", o1, o2, hT, hS3, l1, fun h => ?_⟩
              obtain ⟨w1, rfl, w3⟩ := l2 h
              refine ⟨w1, rfl, fun j' hj' => ?_⟩
              rw [take_succ_get hj, List.mem_append, List.mem_singleton] at hj'
              rcases hj' with q | rfl
              · exact w3 j' q
              · exact hDt
          · clear v1 v2 v3 v4 v5 o1 hT
            obtain ⟨D3, ch3, v1, v2, v3, v5, v6, v4, o1, o2, hT, hS3, l1, l2⟩ := hI
            have hlen : (Src.list pa (nats pl)).items.length = pl.length := by simp [Src.items, nats]
            rw [hlen, List.take_length] at l2
            walk_at "run"
            refine ⟨D3, ch3, by walk_at "vlook", by walk_at "vlook", by walk_at "vlook", by walk_at "vlook", by walk_at "vlook", o1, hT, hS3, l1, fun h => ?_⟩
            obtain ⟨w1, rfl, w3⟩ := l2 h
            obtain ⟨rfl, y1, y2⟩ := j2 w1
            refine ⟨rfl, y1, fun i' hi' j hj => ?_⟩
            rcases Nat.lt_succ_iff_lt_or_eq.mp hi' with q | rfl
            · exact y2 i' q j hj
            · exact w3 j ((hpl3 j).mpr hj)
        · clear v1 v2 v3 v4 o1 hT hS' j1 j2
          obtain ⟨D', ch, v1, v2, v3, v5, v4, o1, hT, hS', j1, j2⟩ := hI
          have hlen : (Src.range (toks.length + 1)).items.length = toks.length + 1 := by simp [Src.items]
          rw [hlen] at j2
          walk_at "run"
          refine ⟨D', ch, by walk_at "vlook", by walk_at "vlook", by walk_at "vlook", by walk_at "vlook", o1, hT, hS', j1, fun h => ⟨(j2 h).1, fun x hxm i j hi hR => ?_⟩⟩
          rw [take_succ_get hx, List.mem_append, List.mem_singleton] at hxm
          rcases hxm with q | rfl
          · exact (j2 h).2.1 x q i j hi hR
          · exact (j2 h).2.2 i (by omega) j hR
      · clear v1 v2 v3 v4 o1 hT
        obtain ⟨D', ch, v1, v2, v3, v4, o1, hT, hS', j1, j2⟩ := hI
        have hlen : (Src.list ag (rs.map V.ref)).items.length = g.length := by simp [Src.items, q2]
        rw [hlen, List.take_length] at j2
        walk_at "run"
        cases ch with
        | true =>
          have := j1 rfl
          exact ⟨falses (headsOf g) toks.length D' + 1, by omega, D', true, by walk_at "vlook", by walk_at "vlook", by walk_at "vlook", by walk_at "vlook", o1, hT, hS', fun _ => rfl, fun h => (nomatch h)⟩
        | false =>
          obtain ⟨rfl, y⟩ := j2 rfl
          exact ⟨0, by omega, D', false, by walk_at "vlook", by walk_at "vlook", by walk_at "vlook", by walk_at "vlook", o1, hT, hS', fun h => (nomatch h), fun _ h bd i j hm hi hR => y (h, bd) hm i j hi hR⟩
    · subst hch
      walk_at "run"
      exact ⟨_, rfl, la, D, rfl, hT.toP, hS, hk2 rfl⟩

theorem spec_derives_from (M : Mod) (hM : Ok M) (g : G) (toks : List Str) (h : Str) (ag lt : Addr) (hg : (symsOf g).length ≤ 28) (hn : toks.length ≤ 900) (hh : IsHead g h) :
    Spec M 4 (Str.ofString "derives_from") [.ref ag, .str h, .ref lt] (fun P => GramP P ag g ∧ StrL P lt toks) (fun v P => ∃ b, v = .bool b ∧ (b = true ↔ ∃ c, Sp g toks [h] 0 toks.length c)) := by
  refine mkSpec hM.p 13 [Str.ofString "g", Str.ofString "head", Str.ofString "tokens"] (by rfl) (by decide) (by decide) (by decide) (fun vals pm code doc h => by obtain ⟨a, b, d, rfl⟩ := three_val h; rfl) (by rfl) (by rfl) (by rfl) ?_ ?_ fun c L fa code I hpre Qf hQf => ?_
  · rintro A B h ⟨q1, q2⟩; exact ⟨GramP.mono A B h q1, h _ _ q2⟩
  · rintro v A B h ⟨b, e, k⟩; exact ⟨b, e, k⟩
  obtain ⟨q1, q2⟩ := hpre
  have ho := I.env
  dsimp only [vars0] at ho I ⊢
  walk_at "run"
  refine call_def I (by rfl) (M.fn hM.p 12 (by rfl)) ?_
  walk_at "run"
  refine ⟨_, _, _, spec_span_tables M hM g toks ag lt hg hn, by decide, ⟨GramP.mono _ _ (fun a o h => .inr h) q1, .inr q2⟩, fun v σ₁ _ hR => ?_⟩
  obtain ⟨a, D, rfl, ⟨f, t1, t2, t3⟩, hS, hC⟩ := hR
  obtain ⟨lr, rows, t4, t5, t6, t7⟩ := t2 h (((headsOf_spec g).2 h).mpr hh)
  obtain ⟨r, hr⟩ : ∃ r, rows[0]? = some r := ⟨rows[0], by simp [t6]⟩
  have t8 := t7 0 r hr
  walk_at "run"
  refine sub_dict (.inl t1) t4 ?_
  walk_at "run"
  refine sub_list (.inl t5) (by decide) (by decide) (v := .ref r) (by simp [hr]) ?_
  walk_at "run"
  refine call_len hM I (by rfl) ?_
  walk_at "run"
  refine ⟨lt, toks.map V.str, rfl, .inl (.inr q2), by simp; omega, ?_⟩
  refine sub_arr (.inl t8) (by omega) (by simp; omega) (v := .bool (D h 0 toks.length)) (by simp) ?_
  walk_at "run"
  exact ⟨_, rfl, _, rfl, table_iff hS hC hh⟩

theorem spec_derives (M : Mod) (hM : Ok M) (st : Str) (b0 : List Str) (g' : G) (toks : List Str) (ag lt : Addr) (hg : (symsOf ((st, b0) :: g')).length ≤ 28) (hn : toks.length ≤ 900) :
    Spec M 5 (Str.ofString "derives") [.ref ag, .ref lt] (fun P => GramP P ag ((st, b0) :: g') ∧ StrL P lt toks) (fun v P => ∃ b, v = .bool b ∧ (b = true ↔ ∃ c, Sp ((st, b0) :: g') toks [st] 0 toks.length c)) := by
  refine mkSpec hM.p 14 [Str.ofString "g", Str.ofString "tokens"] (by rfl) (by decide) (by decide) (by decide) (fun vals pm code doc h => by obtain ⟨a, b, rfl⟩ := two_val h; rfl) (by rfl) (by rfl) (by rfl) ?_ ?_ fun c L fa code I hpre Qf hQf => ?_
  · rintro A B h ⟨q1, q2⟩; exact ⟨GramP.mono A B h q1, h _ _ q2⟩
  · rintro v A B h ⟨b, e, k⟩; exact ⟨b, e, k⟩
  obtain ⟨q1, q2⟩ := hpre
  have q1' := q1
  obtain ⟨rs, k1, k2, k3⟩ := q1'
  obtain ⟨r, hr⟩ : ∃ r, rs[0]? = some r := ⟨rs[0]'(by rw [k2]; simp), by simp⟩
  obtain ⟨lb, k4, k5⟩ := k3 0 r _ hr rfl
  have ho := I.env
  dsimp only [vars0] at ho I ⊢
  walk_at "run"
  refine call_def I (by rfl) (M.fn hM.p 13 (by rfl)) ?_
  walk_at "run"
  refine sub_list (.inr k1) (by decide) (by decide) (v := .ref r) (by simp [hr]) ?_
  walk_at "run"
  walk_at "op"
  walk_at "run"
  refine ⟨_, _, _, spec_derives_from M hM ((st, b0) :: g') toks st ag lt hg hn ⟨b0, List.mem_cons_self⟩, by decide, ⟨GramP.mono _ _ (fun a o h => .inr h) q1, .inr q2⟩, fun v σ₁ _ hR => ?_⟩
  obtain ⟨b, rfl, hb⟩ := hR
  walk_at "run"
  exact ⟨_, rfl, b, rfl, hb⟩

local macro_rules | `(tactic| walk_at "stp") => `(tactic| ((with_reducible refine slice_rev ?_); (try dsimp only)))
theorem evalEach_map (env : Env) : ∀ es : List Expr, evalEach es env = es.map fun e => eval e env
  | [] => rfl
  | e :: es => by
    have : evalEach (e :: es) env = eval e env :: evalEach es env := rfl
    rw [this, evalEach_map env es]; rfl
theorem joinedE {c : Cx} {E : Value → Shared → Prop} {m : Vars} {σ : Hp} {env : Env} {pos : Pos} {Q : V → Vars → Hp → Prop} {v₁ v₂ : Expr} {rest : List Expr}
    (h : ∀ e, e ∈ v₁ :: v₂ :: rest → Ev c E (eval e env) m σ fun v m₁ σ₁ => ∃ y, v = .str y ∧ y.length ≤ 1000 ∧ m₁ = m ∧ σ₁ = σ) (hz : rest.length ≤ 50) (hQ : ∀ y, Q (.str y) m σ) : Ev c E (eval (.JoinedStr (v₁ :: v₂ :: rest) pos) env) m σ Q := by
  refine joined (fun t ht => ?_) (by rw [evalEach_map]; simpa using hz) hQ
  rw [evalEach_map] at ht
  obtain ⟨e, he, rfl⟩ := List.mem_map.mp (show t ∈ (v₁ :: v₂ :: rest).map fun e => eval e env from ht)
  exact h e he

def hdB (g : G) (x : Str) : Bool := decide (x ∈ headsOf g)
def tbOf (g : G) (T : Str → Str → Option Nat) (x y : Str) : Option (List Str) := (T x y).bind fun j => (g[j]?).map (·.2)
theorem TabP.list {σ : Hp} {a l : Addr} {ks : List Str} {T : Str → Str → Option Nat} {xs ys : List V} (h : TabP (own σ) a ks T) (hl : σ l = some (.list xs)) : TabP (own (upd σ l (.list ys))) a ks T := by
  obtain ⟨f, h1, h2, h3⟩ := h
  have h1 : σ a = _ := h1
  refine ⟨f, upd_ne (fun q => by rw [q, hl] at h1; cases h1) h1, fun k hk => ?_, h3⟩
  obtain ⟨r, ts, k1, k2⟩ := h2 k hk
  have k2 : σ r = _ := k2
  exact ⟨r, ts, k1, upd_ne (fun q => by rw [q, hl] at k2; cases k2) k2⟩
theorem small_log {p : Nat} (h : p ≤ 8) : ((p : Nat) : Int).natAbs.log2 < 1920 ∧ (Str.ofString (toString ((p : Nat) : Int))).length ≤ 1000 := by
  have : ∀ p, p < 9 → ((p : Nat) : Int).natAbs.log2 < 1920 ∧ (Str.ofString (toString ((p : Nat) : Int))).length ≤ 1000 := by decide +kernel
  exact this p (by omega)
theorem getLast_rev {st : List Str} {x : Str} : (x :: st).reverse.map V.str = st.reverse.map V.str ++ [V.str x] := by simp

inductive I12 (g : G) (toks : List Str) (ag la lu lp : Addr) (T : Str → Str → Option Nat) (Acc : Prop) (F0 : Nat) (k : Nat) (m : Vars) (σ : Hp) : Prop
  | mk (stk : List Str) (p : Nat) (ls : Addr) (isl : List V) (h1 : m (Str.ofString "g") = some (.ref ag)) (h2 : m (Str.ofString "table") = some (.ref la)) (h3 : m (Str.ofString "unread") = some (.ref lu)) (h4 : m (Str.ofString "place") = some (.int (p : Nat)))
    (h5 : m (Str.ofString "stack") = some (.ref ls)) (h6 : m (Str.ofString "steps") = some (.ref lp)) (h7 : m (Str.ofString "fuel") = some (.int (k : Nat))) (o1 : σ lu = some (.list ((toks ++ [dol]).map V.str))) (o2 : σ ls = some (.list (stk.reverse.map V.str))) (o3 : σ lp = some (.list isl))
    (n1 : lu ≠ ls) (n2 : lp ≠ ls) (tab : TabP (own σ) la (headsOf g) T) (hm : mach (hdB g) (tbOf g T) (toks ++ [dol]) k stk p = true ↔ Acc) (z1 : isl.length + k ≤ F0) (z2 : stk.length + k ≤ F0 + 2) (z3 : ∀ y ∈ stk, y.length ≤ 1000) (z4 : p ≤ toks.length + 1)
    (z5 : stk ≠ [] → p ≤ toks.length ∧ ∀ y ∈ stk.dropLast, y ∉ headsOf g → y ≠ dol)
theorem spec_parse (M : Mod) (hM : Ok M) (st : Str) (b0 : List Str) (g' : G) (toks : List Str) (ag lt : Addr) (Acc : Prop) (hg : (symsOf ((st, b0) :: g')).length ≤ 28) (hf : 50 * (toks.length + 2) * (((st, b0) :: g').length + 1) ≤ 900) (hn : toks.length ≤ 4)
    (hbl : ∀ x ∈ (st, b0) :: g', x.2.length ≤ 2) (hbd : ∀ x ∈ (st, b0) :: g', dol ∉ x.2) (hsh : ∀ x ∈ (st, b0) :: g', x.1.length ≤ 1000 ∧ ∀ y ∈ x.2, y.length ≤ 1000) (hsht : ∀ y ∈ toks, y.length ≤ 1000)
    (hAcc : ∀ N F W T cl, Sets ((st, b0) :: g') st N F W → TabOf ((st, b0) :: g') N F W T cl → (mach (hdB ((st, b0) :: g')) (tbOf ((st, b0) :: g') T) (toks ++ [dol]) (50 * (toks.length + 2) * (((st, b0) :: g').length + 1)) [st, dol] 0 = true ↔ Acc)) :
    SpecX M 8 (Str.ofString "parse_ll1") (Str.ofString "ParseError") [.ref ag, .ref lt] (fun P => GramP P ag ((st, b0) :: g') ∧ StrL P lt toks) (fun _ _ => Acc) (¬ Acc) := by
  have htab := fun ag => spec_ll1_table M hM st b0 g' ag hg
  have hg0 : ((st, b0) :: g')[0]? = some (st, b0) := rfl
  generalize (st, b0) :: g' = g at hg hf hbl hbd hsh hAcc htab hg0 ⊢
  have hgl : g.length ≤ 28 := Nat.le_trans (syms_len g) hg
  generalize hF : 50 * (toks.length + 2) * (g.length + 1) = F0 at hf hAcc
  refine mkSpecX hM.p 10 [Str.ofString "g", Str.ofString "tokens"] (by rfl) (by decide) (by decide) (by decide) (fun vals pm code doc h => by obtain ⟨a, b, rfl⟩ := two_val h; rfl) (by rfl) (by rfl) (by rfl) ?_ fun c fa code E I hpre hE hG Qf hQf => ?_
  · rintro A B h ⟨q1, q2⟩; exact ⟨GramP.mono A B h q1, h _ _ q2⟩
  have hpre' := hpre.1
  obtain ⟨⟨rs, q1, q2, q3⟩, q4⟩ := hpre
  obtain ⟨r0, hr0⟩ := get_same q2.symm hg0
  obtain ⟨lb0, k1, k2⟩ := q3 0 r0 _ hr0 hg0
  have hr0v : (rs.map V.ref)[(0 : Int).toNat]? = some (.ref r0) := by
    show (rs.map V.ref)[0]? = _
    rw [List.getElem?_map, hr0]; rfl
  have ho := I.env
  have hraise := fun (x : ¬ Acc) => x
  dsimp only [vars0] at ho I ⊢
  walk_at "run"
  refine call_def I (by rfl) (M.fn hM.p 8 (by rfl)) ?_
  walk_at "run"
  refine ⟨_, _, _, htab ag, by decide, GramP.mono _ _ (fun a o h => .inr h) hpre', fun v σ₁ _ hR => ?_⟩
  obtain ⟨t, la, T, cl, N, F, W, rfl, p1, p2, hS, hT⟩ := hR
  have p1 : σ₁ t = some (.tuple [.ref la, .int (cl : Nat)]) := p1
  have hAcc := hAcc N F W T cl hS hT
  walk_at "run"
  walk_at "op"
  walk_at "run"
  refine ⟨by simp, fun l1 hl1 => ?_⟩
  refine op_addl (xs := toks.map V.str) (ys := [V.str dol]) (.inr q4) (.inl upd_self) (by simp; omega) fun lu hlu => ?_
  walk_at "run"
  walk_at "op"
  walk_at "run"
  walk_at "op"
  walk_at "run"
  refine ⟨by simp, fun ls hls => ?_⟩
  walk_at "run"
  refine ⟨by simp, fun lp hlp => ?_⟩
  walk_at "run"
  refine call_len hM I (by rfl) ?_
  walk_at "run"
  refine ⟨lt, toks.map V.str, rfl, .inl (.inr q4), by simp; omega, ?_⟩
  walk_at "run"
  walk_at "op"
  refine op_mul (IntMulOk.of_left (by decide)) ?_
  walk_at "run"
  refine call_len hM I (by rfl) ?_
  walk_at "run"
  refine ⟨ag, rs.map V.ref, rfl, .inl (.inr q1), by simp; omega, ?_⟩
  walk_at "run"
  walk_at "op"
  refine op_mul (IntMulOk.of_left (PySem.intBits_le_64 (by simp; omega) (by simp; omega))) ?_
  have hFi : (50 : Int) * (((toks.map V.str).length : Nat) + 2) * (((rs.map V.ref).length : Nat) + 1) = (F0 : Nat) := by
    rw [← hF, List.length_map, List.length_map, q2]; push_cast; rfl
  rw [hFi]
  walk_at "stp"
  have o1 : upd (upd (upd (upd σ₁ l1 (O.list [V.str (Str.ofString "$")])) lu (O.list (List.map V.str toks ++ [V.str dol]))) ls (O.list [V.str (Str.ofString "$"), V.str st])) lp (O.list []) lu = some (.list ((toks ++ [dol]).map V.str)) :=
    upd_new hlp (upd_new hls (by rw [upd_self, List.map_append]; rfl))
  have n1 : lu ≠ ls := ne_of_new hls upd_self
  have n2 : lp ≠ ls := Ne.symm (ne_of_new hlp upd_self)
  have n3 : lu ≠ lp := ne_of_new hlp (upd_new hls upd_self)
  have hu : ∀ p, p ≤ toks.length → ∃ y, (toks ++ [dol])[p]? = some y ∧ y.length ≤ 1000 ∧ (p = toks.length → y = dol) := fun p hp => by
    rcases Nat.lt_or_eq_of_le hp with q | rfl
    · refine ⟨toks[p], by rw [List.getElem?_append_left q]; simp [q], hsht _ (List.getElem_mem q), fun e => by omega⟩
    · exact ⟨dol, by simp, by decide, fun _ => rfl⟩
  refine whileE hE (I12 g toks ag la lu lp T Acc F0) F0
    ⟨[st, dol], 0, ls, [], by walk_at "vlook", by walk_at "vlook", by walk_at "vlook", (by show _ = some (V.int (0 : Int)); walk_at "vlook"), by walk_at "vlook", by walk_at "vlook", by walk_at "vlook", o1, upd_new hlp upd_self, upd_self, n1, n2,
      TabP.mono _ _ (fun a o h => upd_new hlp (upd_new hls (upd_new hlu (upd_new hl1 h)))) p2, hAcc, by simp, by simp; omega, ?_, by omega, fun _ => ⟨by omega, ?_⟩⟩ (fun k m σ hI Qz hQz => ?_)
  · intro y hy
    rcases List.mem_cons.mp hy with rfl | hy
    · exact (hsh _ (List.mem_of_getElem? hg0)).1
    · rw [List.mem_singleton.mp hy]; decide
  · intro y hy
    have : y = st := by simpa using hy
    intro q
    exact absurd (((headsOf_spec g).2 y).mpr ⟨b0, this ▸ List.mem_of_getElem? hg0⟩) q
  clear o1 n1 n2 hls hlp hlu hl1 p1 p2
  obtain ⟨stk, p, ls, isl, v1, v2, v3, v4, v5, v6, v7, o1, o2, o3, n1, n2, hTab, hmach, z1, z2, z3, z4, z5⟩ := hI
  obtain ⟨f, t1, t2, t3⟩ := hTab
  have t1 : σ la = some (.dict (headsOf g) f) := t1
  have hTab : TabP (own σ) la (headsOf g) T := ⟨f, t1, t2, t3⟩
  walk_at "stp"
  refine call_len hM I (by rfl) ?_
  walk_at "run"
  refine ⟨ls, stk.reverse.map V.str, rfl, .inl (.inl o2), by simp; omega, ?_⟩
  walk_at "run"
  walk_at "op"
  refine ⟨_, rfl, fun hb => ?_, fun hb => ?_⟩
  · have hb : 0 < stk.length := by simpa using hb
    obtain ⟨x, stk, rfl⟩ : ∃ x s, stk = x :: s := by
      cases stk with
      | nil => simp at hb
      | cons x s => exact ⟨x, s, rfl⟩
    obtain ⟨z5, z6⟩ := z5 (by simp)
    obtain ⟨y, hy, hyl, hye⟩ := hu p z5
    rw [getLast_rev] at o2
    have hyv : ((toks ++ [dol]).map V.str)[((p : Nat) : Int).toNat]? = some (.str y) := by rw [Int.toNat_natCast, List.getElem?_map, hy]; rfl
    have hp0 : (0 : Int) ≤ ((p : Nat) : Int) := by omega
    have hp63 : ((p : Nat) : Int) < 2 ^ 63 := by omega
    walk_at "stp"
    walk_at "stp"
    walk_at "run"
    walk_at "op"
    refine ⟨_, rfl, fun hb => ?_, fun hb => ?_⟩
    · have hk0 : k = 0 := by simpa using hb
      subst hk0
      have hacc : ¬ Acc := fun q => by have := hmach.mpr q; simp [mach] at this
      walk_at "stp"
      refine raise_ I.top PySem.F.excBase_Exception hM.pe I.room.1 hG hacc ?_
      walk_at "run"
      simp
    · have hk0 : k ≠ 0 := by simpa using hb
      obtain ⟨k, rfl⟩ : ∃ j, k = j + 1 := ⟨k - 1, by omega⟩
      walk_at "run"
      walk_at "op"
      have hk1 : (((k + 1 : Nat) : Int) - 1) = ((k : Nat) : Int) := by omega
      rw [hk1]
      walk_at "run"
      intro va ha
      refine op_neg ha ?_
      refine sub_last (.inl o2) ?_
      walk_at "run"
      refine delete_ ?_
      walk_at "run"
      intro va ha
      refine op_neg ha ?_
      have hsl : stk.length ≤ 1000 := by simp at z2; omega
      intro va vb ha hb
      refine del_last ha hb o2 (by simpa using hsl) ?_
      have o1' : upd σ ls (.list (stk.reverse.map V.str)) lu = some (.list ((toks ++ [dol]).map V.str)) := upd_ne n1 o1
      have o3' : upd σ ls (.list (stk.reverse.map V.str)) lp = some (.list isl) := upd_ne n2 o3
      have o2' : upd σ ls (.list (stk.reverse.map V.str)) ls = some (.list (stk.reverse.map V.str)) := upd_self
      have t1' : upd σ ls (.list (stk.reverse.map V.str)) la = some (.dict (headsOf g) f) := upd_ne (fun q => by rw [q, o2] at t1; cases t1) t1
      have hTab' : TabP (own (upd σ ls (.list (stk.reverse.map V.str)))) la (headsOf g) T := hTab.list o2
      obtain ⟨_, t1₂, t2', _⟩ := hTab'
      have t1₂ : upd σ ls (.list (stk.reverse.map V.str)) la = _ := t1₂
      rw [t1'] at t1₂
      obtain rfl : f = _ := by injection t1₂ with q; injection q
      have hTab' : TabP (own (upd σ ls (.list (stk.reverse.map V.str)))) la (headsOf g) T := hTab.list o2
      clear t1₂ hTab t1 t2 o1 o2 o3
      generalize upd σ ls (.list (stk.reverse.map V.str)) = σ at o1' o2' o3' t1' t2' hTab' ⊢
      have hxl : x.length ≤ 1000 := z3 x List.mem_cons_self
      have hmsg : ∀ (a b : Str), a.length ≤ 1000 → b.length ≤ 1000 → True := fun _ _ _ _ => trivial
      walk_at "run"
      refine op_in_dict (.inl t1') ⟨_, rfl, fun hb => ?_, fun hb => ?_⟩
      · -- the top is a head
        have hxh : x ∈ headsOf g := Classical.byContradiction fun q => by rw [t3 x q] at hb; cases hb
        have hxd : hdB g x = true := by simp [hdB, hxh]
        obtain ⟨rr, ts, e1, e2⟩ := t2' x hxh
        have e2 : σ rr = some (.dict ts fun t => (T x t).map fun n => V.int (n : Nat)) := e2
        walk_at "run"
        refine sub_list (.inl o1') hp0 hp63 hyv ?_
        walk_at "run"
        refine sub_dict (.inl t1') e1 ?_
        refine op_notin_dict (.inl e2) ⟨_, rfl, fun hb => ?_, fun hb => ?_⟩
        · have hTn : T x y = none := by
            cases h : T x y with
            | none => rfl
            | some j => rw [h] at hb; cases hb
          have hacc : ¬ Acc := fun q => by
            have := hmach.mpr q
            simp [mach, hy, hxd, tbOf, hTn] at this
          walk_at "stp"
          refine raise_ I.top PySem.F.excBase_Exception hM.pe I.room.1 hG hacc ?_
          walk_at "stp"
          refine joinedE ?_ (by decide) fun _ => ?_
          · refine List.forall_mem_cons.mpr ⟨const_str ⟨_, rfl, by decide, rfl, rfl⟩, List.forall_mem_cons.mpr ⟨?_, List.forall_mem_cons.mpr ⟨const_str ⟨_, rfl, by decide, rfl, rfl⟩, List.forall_mem_cons.mpr ⟨?_, List.forall_mem_cons.mpr ⟨const_str ⟨_, rfl, by decide, rfl, rfl⟩, List.forall_mem_cons.mpr ⟨?_, fun _ h => (nomatch h)⟩⟩⟩⟩⟩⟩
            · refine fmt_int ?_
              walk_at "run"
              exact ⟨_, rfl, (small_log (by omega)).1, _, rfl, (small_log (by omega)).2, rfl, rfl⟩
            · refine fmt_str ?_
              walk_at "run"
              exact ⟨_, rfl, hxl, _, rfl, hxl, rfl, rfl⟩
            · refine fmt_str ?_
              walk_at "run"
              refine sub_list (.inl o1') hp0 hp63 hyv ?_
              exact ⟨_, rfl, hyl, _, rfl, hyl, rfl, rfl⟩
          · walk_at "run"
            simp
        · obtain ⟨j, hTj⟩ : ∃ j, T x y = some j := by
            cases h : T x y with
            | none => rw [h] at hb; cases hb
            | some j => exact ⟨j, rfl⟩
          obtain ⟨r, hgj, _⟩ := hT.a x y j hTj
          obtain ⟨rj, hrj⟩ := get_same q2.symm hgj
          obtain ⟨lb, k1, k2⟩ := q3 j rj _ hrj hgj
          have hjl := (List.getElem?_eq_some_iff.mp hgj).1
          have hrl := hbl _ (List.mem_of_getElem? hgj)
          have hrd := hbd _ (List.mem_of_getElem? hgj)
          have hrs := (hsh _ (List.mem_of_getElem? hgj)).2
          dsimp only at hrl hrd hrs
          walk_at "run"
          refine sub_dict (.inl t1') e1 ?_
          walk_at "run"
          refine sub_list (.inl o1') hp0 hp63 hyv ?_
          refine sub_dict (.inl e2) (v := .int (j : Nat)) (by simp [hTj]) ?_
          walk_at "run"
          refine ⟨lp, rfl, ⟨_, .inl o3'⟩, ?_⟩
          walk_at "run"
          refine ⟨_, o3', by omega, rfl, ?_⟩
          have nlu : lu ≠ lp := n3
          have o1'' : upd σ lp (.list (isl ++ [V.int (j : Nat)])) lu = some (.list ((toks ++ [dol]).map V.str)) := upd_ne nlu o1'
          have o2'' : upd σ lp (.list (isl ++ [V.int (j : Nat)])) ls = some (.list (stk.reverse.map V.str)) := upd_ne (Ne.symm n2) o2'
          have o3'' : upd σ lp (.list (isl ++ [V.int (j : Nat)])) lp = some (.list (isl ++ [V.int (j : Nat)])) := upd_self
          have hTab'' : TabP (own (upd σ lp (.list (isl ++ [V.int (j : Nat)])))) la (headsOf g) T := hTab'.list o3'
          clear e2 o1' o2' o3' t1' t2' hTab'
          generalize upd σ lp (.list (isl ++ [V.int (j : Nat)])) = σ at o1'' o2'' o3'' hTab'' ⊢
          walk_at "run"
          refine sub_list (.inr q1) (by omega) (by omega) (v := .ref rj) (by rw [Int.toNat_natCast, List.getElem?_map, hrj]; rfl) ?_
          walk_at "run"
          walk_at "op"
          walk_at "run"
          intro va ha
          refine op_neg ha ?_
          refine ⟨lb, r.map V.str, rfl, rfl, .inr k2, by simp; omega, fun lr hlr => ?_⟩
          refine op_addl (.inl (upd_new hlr o2'')) (.inl upd_self) (by simp at z2 ⊢; omega) fun ln hln => ?_
          walk_at "run"
          have hup : ∀ a o, σ a = some o → upd (upd σ lr (.list (r.map V.str).reverse)) ln (.list (stk.reverse.map V.str ++ (r.map V.str).reverse)) a = some o := fun a o h => upd_new hln (upd_new hlr h)
          refine ⟨k, by omega, r ++ stk, p, ln, _, by walk_at "vlook", by walk_at "vlook", by walk_at "vlook", by walk_at "vlook", by walk_at "vlook", by walk_at "vlook", by walk_at "vlook", hup _ _ o1'', by rw [upd_self]; simp, hup _ _ o3'', ne_of_new hln (upd_new hlr o1''), ne_of_new hln (upd_new hlr o3''), TabP.mono _ _ (fun a o h => hup a o h) hTab'', ?_, by simp at z1 ⊢; omega, by simp at z2 ⊢; omega, ?_, z4, fun _ => ⟨z5, ?_⟩⟩
          · rw [← hmach]
            simp only [mach, hy, hxd, if_true, tbOf, hTj, Option.bind_some, hgj, Option.map_some]
          · intro y' hy'
            rcases List.mem_append.mp hy' with q | q
            · exact hrs y' q
            · exact z3 y' (List.mem_cons_of_mem _ q)
          · intro y' hy' hnh
            cases stk with
            | nil =>
              rw [List.append_nil] at hy'
              exact fun q => hrd (q ▸ (List.dropLast_subset _ hy'))
            | cons z stk =>
              rw [List.dropLast_append_of_ne_nil (by simp)] at hy'
              rcases List.mem_append.mp hy' with q | q
              · exact fun e => hrd (e ▸ q)
              · exact z6 y' (by rw [List.dropLast_cons_of_ne_nil (by simp)]; exact List.mem_cons_of_mem _ q) hnh
      · -- the top is no head
        have hxh : x ∉ headsOf g := fun q => by obtain ⟨_, _, e1, _⟩ := t2' x q; rw [e1] at hb; cases hb
        have hxd : hdB g x = false := by simp [hdB, hxh]
        walk_at "run"
        refine sub_list (.inl o1') hp0 hp63 hyv ?_
        refine op_eq_str ⟨_, rfl, fun hb => ?_, fun hb => ?_⟩
        · have hxy : x = y := by simpa using hb
          subst hxy
          walk_at "run"
          walk_at "op"
          walk_at "run"
          have hp1 : ((p : Nat) : Int) + 1 = ((p + 1 : Nat) : Int) := by omega
          rw [hp1]
          refine ⟨k, by omega, stk, p + 1, ls, _, by walk_at "vlook", by walk_at "vlook", by walk_at "vlook", by walk_at "vlook", by walk_at "vlook", by walk_at "vlook", by walk_at "vlook", o1', o2', o3', n1, n2, hTab', ?_, by omega, by simp at z2; omega, fun y' hy' => z3 y' (List.mem_cons_of_mem _ hy'), by omega, fun hne => ?_⟩
          · rw [← hmach]
            simp [mach, hy, hxd]
          · have hxm : x ∈ (x :: stk).dropLast := by rw [List.dropLast_cons_of_ne_nil hne]; exact List.mem_cons_self
            have hxd' := z6 x hxm hxh
            refine ⟨?_, fun y' hy' hnh => z6 y' (by rw [List.dropLast_cons_of_ne_nil hne]; exact List.mem_cons_of_mem _ hy') hnh⟩
            rcases Nat.lt_or_eq_of_le z5 with q | q
            · exact q
            · exact absurd (hye q) hxd'
        · have hxy : ¬ x = y := by simpa using hb
          have hacc : ¬ Acc := fun q => by
            have := hmach.mpr q
            simp [mach, hy, hxd, hxy] at this
          walk_at "stp"
          refine raise_ I.top PySem.F.excBase_Exception hM.pe I.room.1 hG hacc ?_
          walk_at "stp"
          refine joinedE ?_ (by decide) fun _ => ?_
          · refine List.forall_mem_cons.mpr ⟨const_str ⟨_, rfl, by decide, rfl, rfl⟩, List.forall_mem_cons.mpr ⟨?_, List.forall_mem_cons.mpr ⟨const_str ⟨_, rfl, by decide, rfl, rfl⟩, List.forall_mem_cons.mpr ⟨?_, List.forall_mem_cons.mpr ⟨const_str ⟨_, rfl, by decide, rfl, rfl⟩, List.forall_mem_cons.mpr ⟨?_, List.forall_mem_cons.mpr ⟨const_str ⟨_, rfl, by decide, rfl, rfl⟩, fun _ h => (nomatch h)⟩⟩⟩⟩⟩⟩⟩
            · refine fmt_int ?_
              walk_at "run"
              exact ⟨_, rfl, (small_log (by omega)).1, _, rfl, (small_log (by omega)).2, rfl, rfl⟩
            · refine fmt_str ?_
              walk_at "run"
              exact ⟨_, rfl, hxl, _, rfl, hxl, rfl, rfl⟩
            · refine fmt_str ?_
              walk_at "run"
              refine sub_list (.inl o1') hp0 hp63 hyv ?_
              exact ⟨_, rfl, hyl, _, rfl, hyl, rfl, rfl⟩
          · walk_at "run"
            simp
  · have hstk : stk = [] := by
      cases stk with
      | nil => rfl
      | cons x s => simp at hb
    subst hstk
    rw [mach_nil] at hmach
    walk_at "run"
    refine call_len hM I (by rfl) ?_
    walk_at "run"
    refine ⟨lu, _, rfl, .inl (.inl o1), by simp; omega, ?_⟩
    walk_at "op"
    refine ⟨_, rfl, fun hb => ?_, fun hb => ?_⟩
    · have hne : p ≠ toks.length + 1 := by simp at hb; omega
      have hacc : ¬ Acc := fun q => by have := hmach.mpr q; simp at this; exact hne this
      walk_at "stp"
      refine raise_ I.top PySem.F.excBase_Exception hM.pe I.room.1 hG hacc ?_
      walk_at "stp"
      refine joinedE ?_ (by decide) fun _ => ?_
      · refine List.forall_mem_cons.mpr ⟨const_str ⟨_, rfl, by decide, rfl, rfl⟩, List.forall_mem_cons.mpr ⟨?_, List.forall_mem_cons.mpr ⟨const_str ⟨_, rfl, by decide, rfl, rfl⟩, fun _ h => (nomatch h)⟩⟩⟩
        refine fmt_int ?_
        walk_at "run"
        exact ⟨_, rfl, (small_log (by omega)).1, _, rfl, (small_log (by omega)).2, rfl, rfl⟩
      · walk_at "run"
        simp
    · have hne : p = toks.length + 1 := by simp at hb; omega
      walk_at "run"
      exact ⟨_, rfl, hmach.mp (by simp [hne])⟩

theorem mkSpecB {M : Mod} (hp : recsOf M.q = recsOf pw) (k : Nat) {d : DefRec} {n : Nat} {args : List V} {Pre : Vw → Prop} {R : V → Prop} (names : List Str) (e : (recsOf pw)[k]? = some d)
    (hnd : names.Nodup) (hloc : (names.all fun x => decide (d.scope.names.lookup x = some .local)) = true) (hcell : (d.scope.names.all fun x => x.2 != .cell) = true)
    (hbind : ∀ vals pm code doc, vals.map er = args → bindArgs (docDef d.name d.params d.body d.scope pm code doc) ⟨vals, []⟩ = pure (names.zip vals))
    (hco : d.scope.isCoroutine = false) (hgen : d.scope.isGenerator = false) (hk : d.scope.kind = .function) (mono : Mono Pre)
    (body : ∀ c A base outer fa code E s, In M c (envOf d.name d.scope c.L fa code) n → c.A = A.deeper (envOf d.name d.scope c.L fa code) → Below A base outer c.g → M.Top base → base.objs.size ≤ c.L → Pre (fun a o => o.At M.p M.w base a) →
      (∀ e, PassesOwnAt c.M (c.A.mark (some (.ref e))) c.A (envOf d.name d.scope c.L fa code) E) → St c (vars0 names args) (fun _ => none) s →
      wpAny c.M c.A (execs d.body (envOf d.name d.scope c.L fa code)) (fun f s' => ∃ v, f = .ret v ∧ base.StaysIn s'.heap ∧ c.g.UpToSlots s'.heap ∧ s'.gens = #[] ∧ s'.os = c.os ∧ R (er v)) E s) :
    SpecB M (n + 1) d.name args Pre R where
  mono := mono
  run := fun A s fa vals base outer hroom Tb hmg hv hpre hg K hz => by
    have T : M.Top s.heap := Tb.keeps K.stays
    obtain ⟨f, o, pm, code, doc, h1, h2, h3, h4⟩ := M.fnAt hp T e
    obtain rfl := same_addr h1 hmg
    have hmem : ∀ x ∈ names.zip vals, x.1 ∈ names := fun x hx => (List.of_mem_zip hx).1
    refine call_plain hroom.depth h2 h3 T.nolimit h4 (hbind vals pm code doc hv) (fun x hx => of_decide_eq_true (List.all_eq_true.mp hloc x.1 (hmem x hx))) (fun h₁ F => ?_) hco hgen hk (fun x hx => by simpa using List.all_eq_true.mp hcell x hx)
    have I : In M { prog := M.p, w := M.w, A := A.deeper (envOf d.name d.scope s.heap.objs.size f code), g := s.heap, L := s.heap.objs.size, os := s.os } (envOf d.name d.scope s.heap.objs.size f code) n :=
      ⟨⟨rfl, hk, rfl, rfl⟩, rfl, rfl, T, hroom.deeper _⟩
    refine wpAny_mono (body _ A base outer _ _ (fun e s' => wpAny (model M.p M.w) (A.deeper (envOf d.name d.scope s.heap.objs.size f code)) (leaving (envOf d.name d.scope s.heap.objs.size f code) e)
      (fun _ s'' => _) _ s') { s with heap := h₁, toks := s.toks + (names.zip vals).length } I rfl K Tb hz hpre (fun e => PassesOwnAt.leaving) ⟨⟨_, F.ns, fun y v e => vars0_le names vals args hnd hv y v e⟩, F.keep, fun _ _ e => (nomatch e), Nat.le_refl _, hg, rfl⟩) (fun fl s' hq => ?_) fun _ _ e => e
    obtain ⟨v, rfl, k1, k2, k3, k4, k5⟩ := hq
    exact ⟨v, rfl, k1, k2, k3, k4, k5⟩

theorem erF_next {fl : Flow} (h : erF fl = .next) : fl = .next := by cases fl <;> first | rfl | cases h
theorem law_tab_ret {M : Mod} (hM : Ok M) {c : Cx} {base : Heap} {env : Env} {E : Value → Shared → Prop} {g : G} {toks : List Str} {st : Str} {ag lt : Addr} {NCd Acc : Prop} {pp p1 p2 p3 p4 p5 p6 : Pos} {m₃ : Vars} {s₃ : Shared} {b : Bool}
    (hder : Spec M 5 (Str.ofString "derives") [.ref ag, .ref lt] (fun P => GramP P ag g ∧ StrL P lt toks) (fun v P => ∃ b, v = .bool b ∧ (b = true ↔ ∃ c, Sp g toks [st] 0 toks.length c)))
    (I' : In M { c with g := base } env 8) (hpre : GramP (fun a o => o.At M.p M.w base a) ag g ∧ StrL (fun a o => o.At M.p M.w base a) lt toks) (hnc : NCd) (hL : c.g.objs.size ≤ c.L)
    (e1 : env.kindOf (Str.ofString "accepted") = some .local) (e2 : env.kindOf (Str.ofString "g") = some .local) (e3 : env.kindOf (Str.ofString "tokens") = some .local) (e4 : env.kindOf (Str.ofString "derives") = some .globalImplicit)
    (v1 : m₃ (Str.ofString "tokens") = some (.ref lt)) (v2 : m₃ (Str.ofString "g") = some (.ref ag)) (v3 : m₃ (Str.ofString "accepted") = some (.bool b)) (hb : b = true ↔ Acc) (S₃ : St { c with g := base } m₃ (fun _ => none) s₃) (hup : c.g.UpToSlots s₃.heap) :
    wpAny c.M c.A (execs [Stmt.Return (some (Expr.Compare (Expr.Name (Str.ofString "accepted") p1) [CmpOp.Eq] [Expr.Call (Expr.Name (Str.ofString "derives") p2) [Expr.Name (Str.ofString "g") p3, Expr.Name (Str.ofString "tokens") p4] [] p5] p6)) pp] env)
        (fun f s' => ∃ v, f = .ret v ∧ base.StaysIn s'.heap ∧ c.g.UpToSlots s'.heap ∧ s'.gens = #[] ∧ s'.os = c.os ∧ ∃ b, er v = .bool b ∧ (b = true ↔ (NCd → (Acc ↔ ∃ c, Sp g toks [st] 0 toks.length c)))) E s₃ := by
  have ho := I'.env
  refine wpAny_mono ((?_ : X { c with g := base } E _ m₃ (fun _ => none) (fun f m₄ σ₄ => ∃ b', f = .ret (.bool (b == b')) ∧ (b' = true ↔ ∃ c, Sp g toks [st] 0 toks.length c))) s₃ S₃) (fun fl s₄ hq => ?_) fun _ _ e => e
  · refine execs_cons (ret (compare (name_local ho e1 v3 ?_) (by with_unfolding_all rfl)))
    refine call_def I' e4 (M.fn hM.p 14 (by rfl)) ?_
    refine evs_cons (name_local ho e2 v2 (evs_cons (name_local ho e3 v1 (evs_nil ?_)) (by rfl))) (by rfl)
    have hm : ∀ a o, O.At M.p M.w base a o → Sees { c with g := base } (fun _ => none) a o := fun a o h => .inr (by rw [I'.p, I'.w]; exact h)
    refine ⟨_, _, _, hder, by decide, ⟨GramP.mono _ _ hm hpre.1, hm _ _ hpre.2⟩, fun v σ₁ _ hR => ?_⟩
    obtain ⟨b', rfl, hb'⟩ := hR
    walk_at "op"
    exact ⟨b', rfl, hb'⟩
  · obtain ⟨m₄, σ₄, p₄, b', hfl', hb'⟩ := hq
    cases fl with
    | ret v =>
      have hv : er v = .bool (b == b') := by simpa [erF] using hfl'
      refine ⟨v, rfl, p₄.st.keep, fun b o e hn => ?_, p₄.st.gens, p₄.st.os, _, hv, ?_⟩
      · obtain ⟨sl, q⟩ := hup b o e hn
        exact ⟨sl, p₄.frame b _ (fun q' => by rw [q'] at e; exact Nat.lt_irrefl _ (Nat.lt_of_lt_of_le (Heap.lt_size e) hL)) rfl q⟩
      · rw [beq_iff_eq, Bool.eq_iff_iff, hb, hb']
        exact ⟨fun q _ => q, fun q => q hnc⟩
    | next => cases hfl'
    | brk => cases hfl'
    | cont => cases hfl'
def NmLaw : Str := Str.ofString "law_the_table_parser_accepts_the_language"
theorem spec_law_tab (M : Mod) (hM : Ok M) (st : Str) (b0 : List Str) (g' : G) (toks : List Str) (ag lt : Addr) (NCd Acc : Prop) (hg : (symsOf ((st, b0) :: g')).length ≤ 28) (hf : 50 * (toks.length + 2) * (((st, b0) :: g').length + 1) ≤ 900) (hn : toks.length ≤ 4)
    (hbl : ∀ x ∈ (st, b0) :: g', x.2.length ≤ 2) (hbd : ∀ x ∈ (st, b0) :: g', dol ∉ x.2) (hsh : ∀ x ∈ (st, b0) :: g', x.1.length ≤ 1000 ∧ ∀ y ∈ x.2, y.length ≤ 1000) (hsht : ∀ y ∈ toks, y.length ≤ 1000)
    (hNC : ∀ N F W, Sets ((st, b0) :: g') st N F W → (NC ((st, b0) :: g') N F W ↔ NCd))
    (hAcc : NCd → ∀ N F W T cl, Sets ((st, b0) :: g') st N F W → TabOf ((st, b0) :: g') N F W T cl → (mach (hdB ((st, b0) :: g')) (tbOf ((st, b0) :: g') T) (toks ++ [dol]) (50 * (toks.length + 2) * (((st, b0) :: g').length + 1)) [st, dol] 0 = true ↔ Acc)) :
    SpecB M 9 NmLaw [.ref ag, .ref lt] (fun P => GramP P ag ((st, b0) :: g') ∧ StrL P lt toks) (fun v => ∃ b, v = .bool b ∧ (b = true ↔ (NCd → (Acc ↔ ∃ c, Sp ((st, b0) :: g') toks [st] 0 toks.length c)))) := by
  have hll := fun ag => spec_is_ll1 M hM st b0 g' ag hg
  have hder := fun ag lt => spec_derives M hM st b0 g' toks ag lt hg (by omega)
  have hpar := fun ag lt (h : NCd) => spec_parse M hM st b0 g' toks ag lt Acc hg hf hn hbl hbd hsh hsht (hAcc h)
  generalize (st, b0) :: g' = g at hNC hll hder hpar ⊢
  refine mkSpecB hM.p 15 [Str.ofString "g", Str.ofString "tokens"] (by rfl) (by decide) (by decide) (by decide) (fun vals pm code doc h => by obtain ⟨a, b, rfl⟩ := two_val h; rfl) (by rfl) (by rfl) (by rfl) ?_ fun c A base outer fa code E s I hA K Tb hz hpre hE S => ?_
  · rintro A B h ⟨q1, q2⟩; exact ⟨GramP.mono A B h q1, h _ _ q2⟩
  have ho := I.env
  have hpc : GramP (baseOf c) ag g ∧ StrL (baseOf c) lt toks := by
    have hm : ∀ a o, O.At M.p M.w base a o → baseOf c a o := fun a o h => by
      show o.At c.prog c.w c.g a
      rw [I.p, I.w]
      exact h.keeps fun x hx => K.stays a x hx
    exact ⟨GramP.mono _ _ hm hpre.1, hm _ _ hpre.2⟩
  obtain ⟨q1, q2⟩ := hpc
  dsimp only [vars0] at ho I S ⊢
  -- if not is_ll1(g): return True
  refine wpAny_execs_cons (wpAny_mono ((?_ : X c E _ _ (fun _ => none) (fun f m₁ σ₁ => (f = .ret (.bool true) ∧ ¬ NCd) ∨ (f = .next ∧ m₁ = upd (upd (fun _ => none) (Str.ofString "tokens") (.ref lt)) (Str.ofString "g") (.ref ag) ∧ NCd))) s S) (fun fl s₁ hq => ?_) fun _ _ e => e)
  · walk_at "run"
    refine call_def I (by rfl) (M.fn hM.p 9 (by rfl)) ?_
    walk_at "run"
    refine ⟨_, _, _, hll ag, by decide, GramP.mono _ _ (fun a o h => .inr h) q1, fun v σ₁ _ hR => ?_⟩
    obtain ⟨b, N, F, W, rfl, hS, hb⟩ := hR
    rw [hNC N F W hS] at hb
    refine ⟨b, rfl, fun hbt => ?_, fun hbt => ?_⟩
    · walk_at "run"
      exact .inl ⟨rfl, fun q => by rw [hb.mpr q] at hbt; cases hbt⟩
    · walk_at "run"
      exact .inr ⟨rfl, rfl, hb.mp (by simpa using hbt)⟩
  obtain ⟨m₁, σ₁, p₁, hq⟩ := hq
  rcases hq with ⟨hfl, hnc⟩ | ⟨hfl, rfl, hnc⟩
  · cases fl with
    | ret v =>
      have hv : er v = .bool true := by simpa [erF] using hfl
      exact ⟨v, rfl, fun b o e => p₁.st.keep b o (K.stays b o e), Heap.UpToSlots.of_keeps p₁.st.keep, p₁.st.gens, p₁.st.os, true, hv, by simp [hnc]⟩
    | next => cases hfl
    | brk => cases hfl
    | cont => cases hfl
  obtain rfl := erF_next hfl
  dsimp only
  -- accepted = True
  refine wpAny_execs_cons (wpAny_mono ((?_ : X c E _ _ σ₁ (fun f m₂ σ₂ => f = .next ∧ m₂ = upd (upd (upd (fun _ => none) (Str.ofString "tokens") (.ref lt)) (Str.ofString "g") (.ref ag)) (Str.ofString "accepted") (.bool true) ∧ σ₂ = σ₁)) s₁ p₁.st) (fun fl s₂ hq => ?_) fun _ _ e => e)
  · walk_at "run"
    exact ⟨rfl, rfl, rfl⟩
  obtain ⟨m₂, σ₂, p₂, hfl2, rfl, rfl⟩ := hq
  obtain rfl := erF_next hfl2
  dsimp only
  have I' : In M { c with g := base } _ 8 := ⟨⟨I.env.loc, I.env.kind, I.env.glob, I.env.blt⟩, I.p, I.w, Tb, I.room⟩
  refine wpAny_execs_cons ?_
  refine try_own (SX := hpar ag lt hnc) (FB := PySem.F.excBase_Exception) (hs := ?_) (I := I) (hA := hA) (K := K) (Tb := Tb) (hz := hz) (hks := ?_) (hk := ?_) (hF := ?_) (hxk := ?_) (hyk := ?_) (S := p₂.st) (hE := hE) (hn := ?_) (h := ?_) (q1 := ?_) (q2 := ?_) (hi := ?_) (hsw := ?_) (hsw2 := ?_) (he' := ?_) (he := ?_) (hd := ?_) (hdx := ?_)
  · exact hM.pe
  · rfl
  · rfl
  · exact M.fn hM.p 10 (by rfl)
  · rfl
  · rfl
  · decide
  · walk_at "run"
    exact ⟨rfl, rfl, GramP.mono _ _ (fun a o h => .inr h) q1, .inr q2⟩
  · intro v σ' s' hacc S' hup
    exact law_tab_ret hM (hder ag lt) I' hpre hnc S.above (by rfl) (by rfl) (by rfl) (by rfl) (by walk_at "vlook") (by walk_at "vlook") (b := true) (by walk_at "vlook") ⟨fun _ => hacc, fun _ => rfl⟩ S' hup
  · intro s' hnacc S' hup
    exact law_tab_ret hM (hder ag lt) I' hpre hnc S.above (by rfl) (by rfl) (by rfl) (by rfl) (by walk_at "vlook") (by walk_at "vlook") (b := false) (by walk_at "vlook") ⟨fun h => (nomatch h), fun h => absurd h hnacc⟩ S' hup
  · rfl
  · rfl
  · rfl
  · rfl
  · rfl
  · decide
  · decide

theorem f_len_arr {c : Cx} {E : Value → Shared → Prop} {m : Vars} {σ : Hp} {Q : V → Vars → Hp → Prop} {vals : List Value} {l : Addr} {xs : List V} (hv : vals.map er = [.ref l]) (hl : Sees c σ l (.arr xs)) (hz : xs.length ≤ 1000) (h : Q (.int (xs.length : Nat)) m σ) : Ev c E (call (.builtin "len") vals) m σ Q := fun s S => by
  obtain ⟨a, rfl, e⟩ := one_val hv
  obtain rfl := er_ref e
  obtain ⟨items, h1, h2⟩ := hl.at S
  have e1 : items.size = xs.length := by simpa using congrArg List.length h2
  exact call_len_list h1 (by omega) (done (S.toks _) (by rw [e1]; exact h))
theorem call_len_arr {M : Mod} {c : Cx} {E : Value → Shared → Prop} {m : Vars} {σ : Hp} {Q : V → Vars → Hp → Prop} {env : Env} {pos : Pos} {n : Nat} {e : Expr} {np : Pos} (hM : Ok M) (I : In M c env n) (hk : env.kindOf (Str.ofString "len") = some .globalImplicit)
    (h : Evs c E (spliced (backTo pos (starEach [e] env))) m σ fun vs m₁ σ₁ => ∃ l xs, vs = [.ref l] ∧ Sees c σ₁ l (.arr xs) ∧ xs.length ≤ 1000 ∧ Q (.int (xs.length : Nat)) m₁ σ₁)
    (he' : eval (.Call (.Name (Str.ofString "len") np) [e] [] pos) env = (do callWith pos (← eval (.Name (Str.ofString "len") np) env) [] (backTo pos (starEach [e] env)) (backToKw pos (keywordEach [] env))) := by rfl)
    (he : starEach [e] env = (false, eval e env) :: starEach [] env := by rfl) : Ev c E (eval (.Call (.Name (Str.ofString "len") np) [e] [] pos) env) m σ Q :=
  call_blt (name_blt hM I hk (by decide) (val := .builtin "len") (by decide +kernel) (by decide) ⟨"len", rfl, W.mono h fun vs m₁ σ₁ ⟨l, ss, h1, h2, h3, h4⟩ vals hv => f_len_arr (hv.trans h1) h2 h3 h4⟩) he' he rfl

def cellOf (xs : List Int) (i : Nat) : Int := xs.getD i 0
def pickAt (xs : List Int) (i : Nat) (stock : List Str) : Str := stock.getD ((cellOf xs i).fmod (stock.length : Nat)).toNat (Str.ofString "")
def picked (xs : List Int) (i : Nat) (stock : List Str) : List Str := [pickAt xs i stock, pickAt xs (i + 1) stock].filter (· != Str.ofString "")

theorem spec_cell (M : Mod) (hM : Ok M) (xs : List Int) (i : Nat) (ls : Addr) (hz : xs.length ≤ 900) (hi : i ≤ 900) :
    Spec M 1 (Str.ofString "_law_cell") [.ref ls, .int (i : Nat)] (fun P => P ls (.arr (xs.map V.int))) (fun v _ => v = .int (cellOf xs i)) := by
  refine mkSpec hM.p 16 [Str.ofString "script", Str.ofString "i"] (by rfl) (by decide) (by decide) (by decide) (fun vals pm code doc h => by obtain ⟨a, b, rfl⟩ := two_val h; rfl) (by rfl) (by rfl) (by rfl) ?_ ?_ fun c L fa code I hpre Qf hQf => ?_
  · rintro A B h q; exact h _ _ q
  · rintro v A B h q; exact q
  have ho := I.env
  dsimp only [vars0] at ho I ⊢
  walk_at "run"
  refine call_len_arr hM I (by rfl) ?_
  walk_at "run"
  refine ⟨ls, _, rfl, .inr hpre, by simp; omega, ?_⟩
  walk_at "op"
  refine ⟨_, rfl, fun hb => ?_, fun hb => ?_⟩
  · have hb : i < xs.length := by simpa using hb
    walk_at "run"
    refine sub_arr (.inr hpre) (by omega) (by omega) (v := .int (cellOf xs i)) ?_ ?_
    · rw [Int.toNat_natCast, List.getElem?_map]
      simp [cellOf, hb]
    · walk_at "run"
      exact ⟨_, rfl, rfl⟩
  · have hb : ¬ i < xs.length := by simpa using hb
    walk_at "run"
    refine ⟨_, rfl, ?_⟩
    have : cellOf xs i = 0 := by
      unfold cellOf
      rw [List.getD_eq_getElem?_getD, List.getElem?_eq_none (by omega)]; rfl
    rw [this]

theorem pick_get {xs : List Int} {i : Nat} {stock : List Str} (hs : stock ≠ []) : (stock.map V.str)[((cellOf xs i).fmod (stock.length : Nat)).toNat]? = some (.str (pickAt xs i stock)) := by
  have hl : 0 < stock.length := List.length_pos_iff.mpr hs
  have h1 := Int.fmod_lt_of_pos (cellOf xs i) (b := (stock.length : Nat)) (by omega)
  have h2 := Int.fmod_nonneg_of_pos (cellOf xs i) (b := (stock.length : Nat)) (by omega)
  have h3 : ((cellOf xs i).fmod (stock.length : Nat)).toNat < stock.length := by omega
  rw [List.getElem?_map, List.getElem?_eq_getElem h3]
  simp [pickAt, h3]

theorem spec_picked (M : Mod) (hM : Ok M) (xs : List Int) (i : Nat) (stock : List Str) (ls lk : Addr) (hz : xs.length ≤ 900) (hi : i ≤ 800) (hs : stock ≠ []) (hsz : stock.length ≤ 900) :
    Spec M 2 (Str.ofString "_law_picked") [.ref ls, .int (i : Nat), .ref lk] (fun P => P ls (.arr (xs.map V.int)) ∧ P lk (.tuple (stock.map V.str))) (fun v P => ∃ a, v = .ref a ∧ P a (.list ((picked xs i stock).map V.str))) := by
  refine mkSpec hM.p 17 [Str.ofString "script", Str.ofString "at", Str.ofString "stock"] (by rfl) (by decide) (by decide) (by decide) (fun vals pm code doc h => by obtain ⟨a, b, d, rfl⟩ := three_val h; rfl) (by rfl) (by rfl) (by rfl) ?_ ?_ fun c L fa code I hpre Qf hQf => ?_
  · rintro A B h ⟨q1, q2⟩; exact ⟨h _ _ q1, h _ _ q2⟩
  · rintro v A B h ⟨a, e, q⟩; exact ⟨a, e, h _ _ q⟩
  obtain ⟨q1, q2⟩ := hpre
  have hl : 0 < stock.length := List.length_pos_iff.mpr hs
  have ho := I.env
  have hb1 : ∀ j, (0 : Int) ≤ (cellOf xs j).fmod (stock.length : Nat) ∧ (cellOf xs j).fmod (stock.length : Nat) < 2 ^ 63 := fun j => by
    have h1 := Int.fmod_lt_of_pos (cellOf xs j) (b := (stock.length : Nat)) (by omega)
    have h2 := Int.fmod_nonneg_of_pos (cellOf xs j) (b := (stock.length : Nat)) (by omega)
    omega
  dsimp only [vars0] at ho I ⊢
  walk_at "run"
  refine call_def I (by rfl) (M.fn hM.p 16 (by rfl)) ?_
  walk_at "run"
  refine ⟨_, _, _, spec_cell M hM xs i ls hz (by omega), by decide, .inr q1, fun v σ₁ _ hR => ?_⟩
  subst hR
  refine call_len hM I (by rfl) ?_
  walk_at "run"
  refine ⟨lk, _, rfl, .inr (.inr q2), by simp; omega, ?_⟩
  refine op_mod (by simp; omega) ?_
  rw [List.length_map]
  refine sub_tuple (.inr q2) (hb1 _).1 (hb1 _).2 (pick_get hs) ?_
  walk_at "run"
  refine call_def I (by rfl) (M.fn hM.p 16 (by rfl)) ?_
  walk_at "run"
  walk_at "op"
  have hi1 : ((i : Nat) : Int) + 1 = ((i + 1 : Nat) : Int) := by omega
  rw [hi1]
  walk_at "run"
  refine ⟨_, _, _, spec_cell M hM xs (i + 1) ls hz (by omega), by decide, .inr q1, fun v σ₂ hext hR => ?_⟩
  subst hR
  refine call_len hM I (by rfl) ?_
  walk_at "run"
  refine ⟨lk, _, rfl, .inr (.inr q2), by simp; omega, ?_⟩
  refine op_mod (by simp; omega) ?_
  rw [List.length_map]
  refine sub_tuple (.inr q2) (hb1 _).1 (hb1 _).2 (pick_get hs) ?_
  walk_at "run"
  refine listcomp_if I.room.1 ho (cl := []) (fun v => .list v.addr [V.str (pickAt xs i stock), V.str (pickAt xs (i + 1) stock)]) (fun v k ys σ' => σ' v.addr = some (.list [V.str (pickAt xs i stock), V.str (pickAt xs (i + 1) stock)]) ∧ ys = (([pickAt xs i stock, pickAt xs (i + 1) stock].take k).filter (· != Str.ofString "")).map V.str)
    ?_ (fun _ k ys σ' h => .inl h.1) (fun v k ys σ' u C hI' hu' hoC => ?_) (by rfl) (by decide) (by rfl) (by decide) (by decide)
  · walk_at "run"
    refine ⟨by simp, fun la hla => ⟨⟨rfl, .inl upd_self⟩, ⟨upd_self, rfl⟩, by simp [Src.items], fun ys σ₃ D hI' hD => ?_⟩⟩
    obtain ⟨_, rfl⟩ := hI'
    walk_at "run"
    exact ⟨_, rfl, D, rfl, upd_self⟩
  · obtain ⟨o1, rfl⟩ := hI'
    have hu' : ([pickAt xs i stock, pickAt xs (i + 1) stock].map V.str)[k]? = some u := hu'
    obtain ⟨y, hy, rfl⟩ := map_get hu'
    walk_at "run"
    walk_at "op"
    refine ⟨_, rfl, fun hb => ?_, fun hb => ?_⟩
    · walk_at "run"
      refine ⟨o1, ?_⟩
      rw [take_succ_get hy, List.filter_append, List.map_append]
      simp [hb]
    · refine ⟨o1, ?_⟩
      rw [take_succ_get hy, List.filter_append, List.map_append]
      simp [hb]

theorem Sets.closed {g : G} {st : Str} {N : List Str} {F W : Str → List Str} (h : Sets g st N F W) : Closed g (· ∈ N) (fun x y => y ∈ F x) (fun x y => y ∈ W x) dol st where
  n := fun h' r hm hv => h.null.2 h' r hm fun s hs => .inr (hv s hs).2
  f := fun h' r y hm hy => h.fc h' r y hm hy
  w0 := h.wok.w0
  w1 := h.wok.w1
  w2 := h.wok.w2
theorem hdB_iff {g : G} (x : Str) : hdB g x = true ↔ IsHead g x := by rw [hdB, decide_eq_true_eq]; exact (headsOf_spec g).2 x
theorem tbOf_mem {g : G} {N : List Str} {F W : Str → List Str} {T : Str → Str → Option Nat} {cl : Nat} (h : TabOf g N F W T cl) {x y : Str} {r : List Str} (e : tbOf g T x y = some r) : (x, r) ∈ g := by
  unfold tbOf at e
  obtain ⟨j, hj, e⟩ := Option.bind_eq_some_iff.mp e
  obtain ⟨r', hr, _⟩ := h.a x y j hj
  rw [hr] at e
  have : r' = r := by simpa using e
  exact this ▸ List.mem_of_getElem? hr
theorem tbOf_get {g : G} {N : List Str} {F W : Str → List Str} {T : Str → Str → Option Nat} {cl : Nat} (h : TabOf g N F W T cl) (hn : NC g N F W) {x y : Str} {r : List Str} (hm : (x, r) ∈ g) (hp : Pr g (· ∈ N) (fun x y => y ∈ F x) (fun x y => y ∈ W x) x r y) : tbOf g T x y = some r := by
  obtain ⟨j, hj⟩ := List.getElem?_of_mem hm
  obtain ⟨j', hj'⟩ := h.b j y x r hj hp
  obtain ⟨r', hr', hp'⟩ := h.a x y j' hj'
  have : j = j' := hn j j' _ _ y hj hr' rfl hp hp'
  subst this
  simp [tbOf, hj', hj]
def NCd (g : G) (st : Str) : Prop := ∃ N F W, Sets g st N F W ∧ NC g N F W
theorem ncd_iff {g : G} {st : Str} : ∀ N F W, Sets g st N F W → (NC g N F W ↔ NCd g st) := fun N F W h => ⟨fun q => ⟨N, F, W, h, q⟩, fun ⟨_, _, _, h', q⟩ => h'.nc h q⟩

theorem spec_lawful (M : Mod) (hM : Ok M) (st q : Str) (b0 : List Str) (g' : G) (toks : List Str) (ag lt : Addr) (hg : (symsOf ((st, b0) :: g')).length ≤ 28) (hgl : g'.length ≤ 2) (hn : toks.length ≤ 2)
    (hbl : ∀ x ∈ (st, b0) :: g', x.2.length ≤ 2) (hbd : ∀ x ∈ (st, b0) :: g', dol ∉ x.2) (hsh : ∀ x ∈ (st, b0) :: g', x.1.length ≤ 1000 ∧ ∀ y ∈ x.2, y.length ≤ 1000) (hsht : ∀ y ∈ toks, y.length ≤ 1000)
    (hh : ∀ x ∈ (st, b0) :: g', x.1 = st ∨ x.1 = q) (hst : st ≠ dol) (hq : q ≠ dol) :
    SpecB M 9 NmLaw [.ref ag, .ref lt] (fun P => GramP P ag ((st, b0) :: g') ∧ StrL P lt toks) (fun v => v = .bool true) := by
  have hfu : 50 * (toks.length + 2) * (((st, b0) :: g').length + 1) ≤ 900 ∧ 24 ≤ 50 * (toks.length + 2) * (((st, b0) :: g').length + 1) := by
    simp only [List.length_cons]
    have h1 : toks.length = 0 ∨ toks.length = 1 ∨ toks.length = 2 := by omega
    have h2 : g'.length = 0 ∨ g'.length = 1 ∨ g'.length = 2 := by omega
    rcases h1 with h1 | h1 | h1 <;> rcases h2 with h2 | h2 | h2 <;> rw [h1, h2] <;> decide
  have hs := spec_law_tab M hM st b0 g' toks ag lt (NCd ((st, b0) :: g') st) (∃ c, Sp ((st, b0) :: g') toks [st] 0 toks.length c) hg hfu.1 (by omega) hbl hbd hsh hsht ncd_iff ?_
  · refine ⟨hs.mono, fun A s fa vals base outer h1 h2 h3 h4 h5 h6 h7 h8 => codeAny_mono (hs.run A s fa vals base outer h1 h2 h3 h4 h5 h6 h7 h8) fun r s' hr => ?_⟩
    obtain ⟨v, e, k1, k2, k3, k4, b, hv, hb⟩ := hr
    refine ⟨v, e, k1, k2, k3, k4, ?_⟩
    rw [hv, hb.mpr fun _ => Iff.rfl]
  · intro hnc N F W T cl hS hT
    refine mach_iff (p := st) (q := q) hS.closed ⟨fun x ⟨r, hr⟩ => hh (x, r) hr, fun h r hm => hbl (h, r) hm⟩ ?_ (fun h r hm => hbd (h, r) hm) hst (fun x y r e => tbOf_mem hT e) (fun h r y hm hp => tbOf_get hT ((ncd_iff N F W hS).mpr hnc) hm hp) hdB_iff hn hfu.2
    rintro ⟨r, hr⟩
    rcases hh (dol, r) hr with e | e
    · exact hst e.symm
    · exact hq e.symm

/-! two flat rules whose head is the end mark -/
theorem mach_stuck {hd : Str → Bool} {tb : Str → Str → Option (List Str)} {t : List Str} (hb : ∀ x y r, tb x y = some r → dol ∉ r) : ∀ (n : Nat) (stk : List Str) (p : Nat), p ≤ t.length → (∀ y ∈ stk, hd y = false → y ≠ dol) → mach hd tb (t ++ [dol]) n stk p = false := by
  intro n
  induction n with
  | zero =>
    intro stk p hp hs
    cases stk with
    | nil => rw [mach_nil]; simp; omega
    | cons x st => simp [mach]
  | succ n ih =>
    intro stk p hp hs
    cases stk with
    | nil => rw [mach_nil]; simp; omega
    | cons x st =>
      simp only [mach]
      cases e : (t ++ [dol])[p]? with
      | none => rfl
      | some y =>
        dsimp only
        split
        · rename_i hx
          cases e2 : tb x y with
          | none => rfl
          | some r =>
            dsimp only
            refine ih _ _ hp fun z hz hzh => ?_
            rcases List.mem_append.mp hz with q | q
            · exact fun e => hb x y r e2 (e ▸ q)
            · exact hs z (List.mem_cons_of_mem _ q) hzh
        · rename_i hx
          split
          · rename_i hxy
            subst hxy
            have hne := hs x List.mem_cons_self (by simpa using hx)
            refine ih _ _ ?_ fun z hz hzh => hs z (List.mem_cons_of_mem _ hz) hzh
            rcases Nat.lt_or_eq_of_le hp with q | q
            · exact q
            · subst q
              simp at e
              exact absurd e.symm hne
          · rfl
theorem flat_span {g : G} {t r : List Str} (hr : ∀ y ∈ r, ¬ IsHead g y) : ∀ {i : Nat}, i ≤ t.length → ((∃ c, Sp g t r i t.length c) ↔ t.drop i = r) := by
  induction r with
  | nil =>
    intro i hi
    constructor
    · rintro ⟨c, h⟩
      cases h with
      | nil _ => exact List.drop_length
    · intro h
      have : t.length - i = 0 := by simpa using congrArg List.length h
      have e : i = t.length := by omega
      subst e
      exact ⟨0, .nil (Nat.le_refl _)⟩
  | cons x r ih =>
    intro i hi
    have hx := hr x List.mem_cons_self
    have ih := @ih (fun y hy => hr y (List.mem_cons_of_mem _ hy))
    constructor
    · rintro ⟨c, h⟩
      cases h with
      | tok h1 h2 h3 =>
        have hl := h3.le
        have := (ih (i := i + 1) (by omega)).mp ⟨_, h3⟩
        rw [drop_get h2, this]
      | head h1 _ _ => exact absurd ⟨_, h1⟩ hx
    · intro h
      have hlt : i < t.length := by
        rcases Nat.lt_or_ge i t.length with q | q
        · exact q
        · rw [List.drop_of_length_le q] at h; cases h
      have hg : t[i]? = some t[i] := by simp [hlt]
      rw [drop_get hg] at h
      injection h with h1 h2
      obtain ⟨c, hc⟩ := (ih (i := i + 1) (by omega)).mpr h2
      exact ⟨_, .tok hx (hg.trans (by rw [h1])) hc⟩

theorem spec_dollar (M : Mod) (hM : Ok M) (b0 b1 : List Str) (toks : List Str) (ag lt : Addr) (hn : toks.length ≤ 2) (hl0 : b0.length ≤ 2) (hl1 : b1.length ≤ 2) (hd0 : dol ∉ b0) (hd1 : dol ∉ b1) (hs0 : ∀ y ∈ b0, y.length ≤ 1000) (hs1 : ∀ y ∈ b1, y.length ≤ 1000) (hsht : ∀ y ∈ toks, y.length ≤ 1000) :
    SpecB M 9 NmLaw [.ref ag, .ref lt] (fun P => GramP P ag [(dol, b0), (dol, b1)] ∧ StrL P lt toks) (fun v => v = .bool (!(decide (b0.take 1 ≠ b1.take 1) && decide (toks = b0 ∨ toks = b1)))) := by
  have mem : ∀ x, x ∈ [(dol, b0), (dol, b1)] → x = (dol, b0) ∨ x = (dol, b1) := fun x hx => by simpa using hx
  have head : ∀ y, IsHead [(dol, b0), (dol, b1)] y ↔ y = dol := fun y => by
    constructor
    · rintro ⟨r, hr⟩
      rcases mem _ hr with e | e <;> exact congrArg Prod.fst e
    · rintro rfl; exact ⟨b0, List.mem_cons_self⟩
  have nohead : ∀ r, (dol, r) ∈ [(dol, b0), (dol, b1)] → ∀ y ∈ r, ¬ IsHead [(dol, b0), (dol, b1)] y := fun r hr y hy hh => by
    have e := (head y).mp hh
    subst e
    rcases mem _ hr with e | e
    · exact hd0 (by have e' : r = b0 := congrArg Prod.snd e; rw [← e']; exact hy)
    · exact hd1 (by have e' : r = b1 := congrArg Prod.snd e; rw [← e']; exact hy)
  have hfu : 50 * (toks.length + 2) * ([(dol, b0), (dol, b1)].length + 1) ≤ 900 := by simp only [List.length_cons, List.length_nil]; omega
  have hs := spec_law_tab M hM dol b0 [(dol, b1)] toks ag lt (b0.take 1 ≠ b1.take 1) False ?_ hfu (by omega) ?_ ?_ ?_ hsht ?_ ?_
  · refine ⟨hs.mono, fun A s fa vals base outer h1 h2 h3 h4 h5 h6 h7 h8 => codeAny_mono (hs.run A s fa vals base outer h1 h2 h3 h4 h5 h6 h7 h8) fun r s' hr => ?_⟩
    obtain ⟨v, e, k1, k2, k3, k4, b, hv, hb⟩ := hr
    refine ⟨v, e, k1, k2, k3, k4, ?_⟩
    rw [hv]
    congr 1
    have hder : (∃ c, Sp [(dol, b0), (dol, b1)] toks [dol] 0 toks.length c) ↔ (toks = b0 ∨ toks = b1) := by
      constructor
      · rintro ⟨c, h⟩
        rcases h.one with ⟨hn, _⟩ | ⟨r, c', hr, hsp, _⟩
        · exact absurd ((head dol).mpr rfl) hn
        · have := (flat_span (nohead r hr) (Nat.zero_le _)).mp ⟨_, hsp⟩
          rw [List.drop_zero] at this
          rcases mem _ hr with e | e
          · exact .inl (this.trans (congrArg Prod.snd e))
          · exact .inr (this.trans (congrArg Prod.snd e))
      · intro h
        have key : ∀ r, (dol, r) ∈ [(dol, b0), (dol, b1)] → toks = r → ∃ c, Sp [(dol, b0), (dol, b1)] toks [dol] 0 toks.length c := fun r hr e => by
          obtain ⟨c, hc⟩ := (flat_span (t := toks) (nohead r hr) (Nat.zero_le _)).mpr (by rw [List.drop_zero]; exact e)
          exact ⟨_, Sp.of_rule hr hc⟩
        rcases h with e | e
        · exact key b0 (by simp) e
        · exact key b1 (by simp) e
    rw [hder] at hb
    rw [Bool.eq_iff_iff, hb]
    by_cases h1 : b0.take 1 = b1.take 1 <;> by_cases h2 : toks = b0 ∨ toks = b1 <;> simp [h1, h2]
  · have : (symsOf [(dol, b0), (dol, b1)]).length = b0.length + b1.length + 2 := by simp [symsOf]; omega
    omega
  · intro x hx; rcases mem x hx with rfl | rfl
    · exact hl0
    · exact hl1
  · intro x hx; rcases mem x hx with rfl | rfl
    · exact hd0
    · exact hd1
  · intro x hx; rcases mem x hx with rfl | rfl
    · exact ⟨(by decide : dol.length ≤ 1000), hs0⟩
    · exact ⟨(by decide : dol.length ≤ 1000), hs1⟩
  · intro N F W hS
    have hdm : dol ∈ headsOf [(dol, b0), (dol, b1)] := ((headsOf_spec _).2 dol).mpr ((head dol).mpr rfl)
    have hmm : ∀ h a x b, (h, a ++ x :: b) ∈ [(dol, b0), (dol, b1)] → ¬ IsHead [(dol, b0), (dol, b1)] x := fun h a x b hm => by
      have hh : h = dol := (head h).mp ⟨_, hm⟩
      subst hh
      exact nohead _ hm x (by simp)
    have hW : ∀ y, y ∈ W dol ↔ y = dol := fun y => ⟨fun hy => hS.ws.least (fun _ y => y = dol) ⟨rfl, fun h a x b y hm hx => absurd hx (hmm h a x b hm), fun h a x b y hm hx => absurd hx (hmm h a x b hm)⟩ dol hdm y hy, fun e => e ▸ hS.wok.w0⟩
    have hP : ∀ r, (dol, r) ∈ [(dol, b0), (dol, b1)] → ∀ y, Pred [(dol, b0), (dol, b1)] N F W (dol, r) y ↔ y = r.headD dol := fun r hr y => by
      unfold Pred Pr
      cases r with
      | nil =>
        simp only [FSt, false_or, List.headD_nil]
        rw [hW]
        exact ⟨fun h => h.2, fun h => ⟨fun x hx => (nomatch hx), h⟩⟩
      | cons z r =>
        have hz := nohead _ hr z List.mem_cons_self
        simp only [FSt, List.headD_cons]
        constructor
        · rintro ((⟨h, _⟩ | ⟨_, h⟩) | ⟨h, _⟩)
          · exact absurd h hz
          · exact h
          · exact absurd (h z List.mem_cons_self).1 hz
        · intro h; exact .inl (.inr ⟨hz, h⟩)
    have htk : b0.take 1 = b1.take 1 ↔ b0.headD dol = b1.headD dol := by
      cases b0 with
      | nil =>
        cases b1 with
        | nil => simp
        | cons z r =>
          have : dol ≠ z := fun e => hd1 (e ▸ List.mem_cons_self)
          simp [this]
      | cons z r =>
        cases b1 with
        | nil =>
          have : ¬ z = dol := fun e => hd0 (e ▸ List.mem_cons_self)
          simp [this]
        | cons z' r' => simp
    constructor
    · intro hnc e
      have := hnc 0 1 _ _ (b0.headD dol) rfl rfl rfl ((hP b0 (by simp) _).mpr rfl) ((hP b1 (by simp) _).mpr (htk.mp e))
      omega
    · intro hne j j' x x' y hx hx' _ hp hp'
      have two : ∀ (j : Nat) x, [(dol, b0), (dol, b1)][j]? = some x → Pred [(dol, b0), (dol, b1)] N F W x y → (j = 0 ∧ y = b0.headD dol) ∨ (j = 1 ∧ y = b1.headD dol) := fun j x hx hp => by
        match j, hx with
        | 0, hx =>
          obtain rfl : (dol, b0) = x := Option.some.inj hx
          exact .inl ⟨rfl, (hP b0 (by simp) y).mp hp⟩
        | 1, hx =>
          obtain rfl : (dol, b1) = x := Option.some.inj hx
          exact .inr ⟨rfl, (hP b1 (by simp) y).mp hp⟩
        | j + 2, hx => simp at hx
      rcases two j x hx hp with ⟨rfl, h1⟩ | ⟨rfl, h1⟩ <;> rcases two j' x' hx' hp' with ⟨rfl, h2⟩ | ⟨rfl, h2⟩
      · rfl
      · exact absurd (htk.mpr (h1.symm.trans h2)) hne
      · exact absurd (htk.mpr (h2.symm.trans h1)) hne
      · rfl
  · intro _ N F W T cl hS hT
    rw [mach_stuck (fun x y r e q => ?_) _ _ _ (Nat.zero_le _)]
    · simp
    · intro y hy hh
      have : y = dol := by simpa using hy
      subst this
      rw [(hdB_iff dol).mpr ((head dol).mpr rfl)] at hh; cases hh
    · have := tbOf_mem hT e
      rcases mem _ this with e | e
      · exact hd0 (by have e' : r = b0 := congrArg Prod.snd e; rw [← e']; exact q)
      · exact hd1 (by have e' : r = b1 := congrArg Prod.snd e; rw [← e']; exact q)

section
variable {c : Cx} {s : Shared}
theorem at_list_inj {l : Addr} {ss ts : List Str} (h1 : (O.list (ss.map V.str)).At c.prog c.w s.heap l) (h2 : (O.list (ts.map V.str)).At c.prog c.w s.heap l) : ss = ts := by
  obtain ⟨xs, n, a1, a2⟩ := h1
  obtain ⟨ys, n', b1, b2⟩ := h2
  unfold IsL at a1 b1
  rw [a1] at b1
  injection b1 with b1
  injection b1 with _ _ b1
  injection b1 with b1
  subst b1
  have := a2.symm.trans b2
  exact List.map_inj_right (fun x y e => by injection e) |>.mp this
theorem eqat_strs {l k : Addr} {ss ts : List Str} (A : Around) (hu : A.units < cLine) (hl : (O.list (ss.map V.str)).At c.prog c.w s.heap l) (hk : (O.list (ts.map V.str)).At c.prog c.w s.heap k) : EqAt A s (.ref l) (.ref k) (decide (ss = ts)) := by
  by_cases e : l = k
  · subst e
    have := at_list_inj hl hk
    subst this
    simp only [decide_true]
    exact EqAt.same _
  · exact EqAt.of_refs e (eqS_lists A hu hl hk).1
theorem eqat_rule {r k : Addr} {h : Str} {b : List Str} {l l' : Addr} (A : Around) (hu : A.units + 1 < cLine) (hr : (O.tuple [.str h, .ref l]).At c.prog c.w s.heap r) (hk : (O.tuple [.str h, .ref l']).At c.prog c.w s.heap k)
    (hl : (O.list (b.map V.str)).At c.prog c.w s.heap l) (hl' : (O.list (b.map V.str)).At c.prog c.w s.heap l') : EqAt A s (.ref r) (.ref k) true := by
  by_cases e : r = k
  · subst e; exact EqAt.same _
  refine EqAt.of_refs e ?_
  obtain ⟨xs, n, a1, a2⟩ := hr
  obtain ⟨ys, n', b1, b2⟩ := hk
  obtain ⟨xs⟩ := xs
  obtain ⟨ys⟩ := ys
  have a2 : xs.map er = [.str h, .ref l] := a2
  have b2 : ys.map er = [.str h, .ref l'] := b2
  obtain ⟨x0, x1, rfl⟩ := two_val a2
  obtain ⟨y0, y1, rfl⟩ := two_val b2
  simp only [List.map_cons, List.map_nil, List.cons.injEq, and_true] at a2 b2
  obtain ⟨t, rfl⟩ := er_str a2.1
  obtain ⟨t', rfl⟩ := er_str b2.1
  obtain rfl := er_ref a2.2
  obtain rfl := er_ref b2.2
  have := RcAt.tuples (A := A) (e := fun _ => true) ⟨_, a1, rfl, n, rfl⟩ ⟨_, b1, rfl, n', rfl⟩ (by omega) fun j h1 h2 => ?_
  · exact this
  · match j, h1, h2 with
    | 0, _, _ => have := EqAt.str_str (A := A.in1) (s := s) h t h t'; simpa using this
    | 1, _, _ => have := eqat_strs A.in1 (by show A.units + 1 < cLine; omega) hl hl'; simpa using this
theorem rc_gram {ag ak : Addr} {g : G} (A : Around) (hu : A.units + 2 < cLine) (h1 : GramP (fun a o => o.At c.prog c.w s.heap a) ag g) (h2 : GramP (fun a o => o.At c.prog c.w s.heap a) ak g) : RcNeAt A s (.ref ag) (.ref ak) false := by
  obtain ⟨rs, p1, p2, p3⟩ := h1
  obtain ⟨rs', q1, q2, q3⟩ := h2
  obtain ⟨xs, n, a1, a2⟩ := p1
  obtain ⟨ys, n', b1, b2⟩ := q1
  have l1 : xs.size = g.length := by have := congrArg List.length a2; simpa [p2] using this
  have l2 : ys.size = g.length := by have := congrArg List.length b2; simpa [q2] using this
  have := RcNeAt.lists (A := A) (e := fun _ => true) a1.isList b1.isList (by omega) (by omega) fun j hj hj' => ?_
  · have e : (!(List.range xs.size).all fun _ => true) = false := by simp
    rwa [e] at this
  · have hj0 : j < g.length := by omega
    obtain ⟨r, hr⟩ := get_same p2.symm (x := g[j]) (by simp [hj0] : g[j]? = some g[j])
    obtain ⟨r', hr'⟩ := get_same q2.symm (x := g[j]) (by simp [hj0] : g[j]? = some g[j])
    obtain ⟨l, w1, w2⟩ := p3 j r _ hr (by simp [hj0] : g[j]? = some g[j])
    obtain ⟨l', z1, z2⟩ := q3 j r' _ hr' (by simp [hj0] : g[j]? = some g[j])
    have e1 : er xs[j] = .ref r := by
      have := congrArg (·[j]?) a2
      simp [hj, hr] at this
      exact this
    have e2 : er ys[j] = .ref r' := by
      have := congrArg (·[j]?) b2
      simp [hj', hr'] at this
      exact this
    rw [er_ref e1, er_ref e2]
    exact eqat_rule A.in1 (by show A.units + 1 + 1 < cLine; omega) w1 z1 w2 z2
end
section
variable {c : Cx} {E : Value → Shared → Prop} {m : Vars} {σ : Hp} {Q : V → Vars → Hp → Prop}
theorem op_ne_gram {g : G} {ag ak : Addr} (hu : c.A.units + 2 < cLine) (h1 : GramP (Sees c σ) ag g) (h2 : GramP (Sees c σ) ak g) (h : Q (.bool false) m σ) : Op2 c E (compareOp .NotEq) (.ref ag) (.ref ak) m σ Q := fun a b ha hb s S => by
  obtain rfl := er_ref ha; obtain rfl := er_ref hb
  exact rc_gram (c := c) c.A hu (GramP.mono _ _ (fun a o q => q.at S) h1) (GramP.mono _ _ (fun a o q => q.at S) h2) _ _ _ _ (done (val := .bool _) (.refl S) h)
theorem op_in_two {t b0 b1 : List Str} {lw l l0 l1 : Addr} (hu : c.A.units + 2 < cLine) (hl : Sees c σ l (.list [.ref l0, .ref l1])) (h0 : Sees c σ l0 (.list (b0.map V.str))) (h1 : Sees c σ l1 (.list (b1.map V.str)))
    (hw : Sees c σ lw (.list (t.map V.str))) (h : Q (.bool (decide (t = b0 ∨ t = b1))) m σ) : Op2 c E (compareOp .In) (.ref lw) (.ref l) m σ Q := fun a b ha hb s S => by
  obtain rfl := er_ref ha; obtain rfl := er_ref hb
  obtain ⟨items, n, k1, k2⟩ := hl.at S
  have x0 := h0.at S
  have x1 := h1.at S
  have xw := hw.at S
  obtain ⟨items⟩ := items
  have k2 : items.map er = [.ref l0, .ref l1] := k2
  obtain ⟨y0, y1, rfl⟩ := two_val k2
  simp only [List.map_cons, List.map_nil, List.cons.injEq, and_true] at k2
  obtain rfl := er_ref k2.1
  obtain rfl := er_ref k2.2
  have hc : ∀ b : List Str, decide (b = t) = decide (t = b) := fun b => by
    by_cases e : b = t
    · subst e; rfl
    · have e' : ¬ t = b := fun q => e q.symm
      simp [e, e']
  refine in_listAt (fun y => if y = .ref l0 then decide (t = b0) else decide (t = b1)) k1.isList (fun y hy => ?_) (done (val := .bool _) (.refl S) ?_)
  · have hy : y = .ref l0 ∨ y = .ref l1 := by simpa using hy
    by_cases e : y = .ref l0
    · subst e
      simp only [if_true]
      rw [← hc]
      exact eqat_strs c.A.in1 (by show c.A.units + 1 < cLine; omega) x0 xw
    · simp only [e, if_false]
      rw [hy.resolve_left e, ← hc]
      exact eqat_strs c.A.in1 (by show c.A.units + 1 < cLine; omega) x1 xw
  · have : (#[Value.ref l0, Value.ref l1].any fun y => if y = .ref l0 then decide (t = b0) else decide (t = b1)) = decide (t = b0 ∨ t = b1) := by
      by_cases e : l1 = l0
      · subst e
        have := at_list_inj x0 x1
        subst this
        simp
      · have e' : ¬ Value.ref l1 = Value.ref l0 := fun q => e (by injection q)
        simp [e']
    rw [this]; exact h
theorem call_type_bool {M : Mod} {env : Env} {pos np : Pos} {n : Nat} {e : Expr} (hM : Ok M) (I : In M c env n) (hk : env.kindOf (Str.ofString "type") = some .globalImplicit)
    (h : Evs c E (spliced (backTo pos (starEach [e] env))) m σ fun vs m₁ σ₁ => ∃ b, vs = [.bool b] ∧ Q (.ty "bool") m₁ σ₁)
    (he' : eval (.Call (.Name (Str.ofString "type") np) [e] [] pos) env = (do callWith pos (← eval (.Name (Str.ofString "type") np) env) [] (backTo pos (starEach [e] env)) (backToKw pos (keywordEach [] env))) := by rfl)
    (he : starEach [e] env = (false, eval e env) :: starEach [] env := by rfl) : Ev c E (eval (.Call (.Name (Str.ofString "type") np) [e] [] pos) env) m σ Q :=
  call_typ (name_blt hM I hk (by decide) (val := .type "type") (by decide +kernel) (by decide) ⟨"type", rfl, W.mono h fun vs m₁ σ₁ ⟨b, h1, h2⟩ vals hv s S => by
    obtain ⟨a, rfl, e⟩ := one_val (hv.trans h1)
    rw [er_bool e]
    exact call_type_of (Tx := "bool") rfl (by decide) (done (val := .type "bool") (.refl S) h2)⟩) he' he rfl
theorem op_isnot_same {x : String} (h : Q (.bool false) m σ) : Op2 c E (compareOp .IsNot) (.ty x) (.ty x) m σ Q := fun a b ha hb s S => by
  rw [er_ty ha, er_ty hb]
  exact isnot_type_same (done (val := .bool false) (.refl S) h)
end

def Bd (b : List Str) : Prop := b.length ≤ 2 ∧ ∀ y ∈ b, y.length ≤ 1000 ∧ y ≠ dol
theorem pickAt_mem {xs : List Int} {i : Nat} {stock : List Str} (hs : stock ≠ []) : pickAt xs i stock ∈ stock := by
  have := pick_get (xs := xs) (i := i) hs
  rw [List.getElem?_map] at this
  obtain ⟨y, hy, e⟩ := Option.map_eq_some_iff.mp this
  have : y = pickAt xs i stock := by injection e
  exact this ▸ List.mem_of_getElem? hy
theorem picked_mem {xs : List Int} {i : Nat} {stock : List Str} (hs : stock ≠ []) : (picked xs i stock).length ≤ 2 ∧ ∀ y ∈ picked xs i stock, y ∈ stock := by
  constructor
  · exact Nat.le_trans (List.length_filter_le _ _) (by simp)
  · intro y hy
    have := (List.mem_filter.mp hy).1
    rcases List.mem_cons.mp this with rfl | h
    · exact pickAt_mem hs
    · rw [List.mem_singleton.mp h]; exact pickAt_mem hs
theorem picked_bd {xs : List Int} {i : Nat} {stock : List Str} (hs : stock ≠ []) (h : ∀ y ∈ stock, y.length ≤ 1000 ∧ y ≠ dol) : Bd (picked xs i stock) := ⟨(picked_mem hs).1, fun y hy => h y ((picked_mem hs).2 y hy)⟩

abbrev sS : Str := Str.ofString "S"
abbrev sA : Str := Str.ofString "A"
def flatSt : List Str := [Str.ofString "a", Str.ofString "b", Str.ofString ""]
def richSt : List Str := [Str.ofString "a", Str.ofString "b", Str.ofString "", sS, sA]
def wordSt : List Str := [Str.ofString "a", Str.ofString "b", Str.ofString "", Str.ofString "a", Str.ofString "b", Str.ofString "$", sS, sA]
/-- what the law builds -/
def Built (z : Bool) (g : G) : Prop := match z with
  | true => ∃ b0 b1, g = [(dol, b0), (dol, b1)] ∧ Bd b0 ∧ Bd b1
  | false => ∃ b0 g', g = (sS, b0) :: g' ∧ g'.length ≤ 2 ∧ ∀ x ∈ g, (x.1 = sS ∨ x.1 = sA) ∧ Bd x.2

theorem GramP.at {σ : Hp} {ag : Addr} {g : G} (h : GramP (own σ) ag g) {i : Nat} {x : Str × List Str} (hx : g[i]? = some x) : ∃ (rs : List Addr) (r l : Addr), σ ag = some (.list (rs.map V.ref)) ∧ rs.length = g.length ∧ rs[i]? = some r ∧ σ r = some (.tuple [.str x.1, .ref l]) ∧ σ l = some (.list (x.2.map V.str)) := by
  obtain ⟨rs, h1, h2, h3⟩ := h
  obtain ⟨r, hr⟩ := get_same h2.symm hx
  obtain ⟨l, k1, k2⟩ := h3 i r x hr hx
  exact ⟨rs, r, l, h1, h2, hr, k1, k2⟩
theorem ref_get {rs : List Addr} {i : Nat} {r : Addr} (h : rs[i]? = some r) : (rs.map V.ref)[((i : Nat) : Int).toNat]? = some (.ref r) := by rw [Int.toNat_natCast, List.getElem?_map, h]; rfl
def WantOf (z : Bool) (g : G) (t : List Str) (wn : Bool) : Prop := (z = true → ∃ b0 b1, g = [(dol, b0), (dol, b1)] ∧ wn = !(decide (b0.take 1 ≠ b1.take 1) && decide (t = b0 ∨ t = b1))) ∧ (z = false → wn = true)
def Short (t : List Str) : Prop := t.length ≤ 2 ∧ ∀ y ∈ t, y.length ≤ 1000
theorem built_at {z : Bool} {g : G} (h : Built z g) : ∃ x, g[0]? = some x ∧ g.length ≤ 3 ∧ ∀ x ∈ g, Short x.2 := by
  have sh : ∀ b, Bd b → Short b := fun b h => ⟨h.1, fun y hy => (h.2 y hy).1⟩
  cases z with
  | true =>
    obtain ⟨b0, b1, rfl, h0, h1⟩ := h
    refine ⟨_, rfl, by simp, fun x hx => ?_⟩
    rcases List.mem_cons.mp hx with rfl | hx
    · exact sh _ h0
    · rw [List.mem_singleton.mp hx]; exact sh _ h1
  | false =>
    obtain ⟨b0, g', rfl, h1, h2⟩ := h
    exact ⟨_, rfl, by simp; omega, fun x hx => sh _ (h2 x hx).2⟩
theorem law_spec (M : Mod) (hM : Ok M) {z : Bool} {g : G} {t : List Str} {wn : Bool} (hB : Built z g) (hW : WantOf z g t wn) (ht : Short t) (ag lw : Addr) : SpecB M 9 NmLaw [.ref ag, .ref lw] (fun P => GramP P ag g ∧ StrL P lw t) (fun v => v = .bool wn) := by
  cases z with
  | true =>
    obtain ⟨b0, b1, hg, e⟩ := hW.1 rfl
    obtain ⟨c0, c1, hg', h0, h1⟩ := hB
    rw [hg] at hg'
    obtain ⟨rfl, rfl⟩ : b0 = c0 ∧ b1 = c1 := by simpa using hg'
    subst hg
    rw [e]
    exact spec_dollar M hM b0 b1 t ag lw ht.1 h0.1 h1.1 (fun q => (h0.2 _ q).2 rfl) (fun q => (h1.2 _ q).2 rfl) (fun y hy => (h0.2 y hy).1) (fun y hy => (h1.2 y hy).1) ht.2
  | false =>
    rw [hW.2 rfl]
    obtain ⟨b0, g', rfl, h1, h2⟩ := hB
    refine spec_lawful M hM sS sA b0 g' t ag lw ?_ h1 ht.1 (fun x hx => (h2 x hx).2.1) (fun x hx q => ((h2 x hx).2.2 _ q).2 rfl) (fun x hx => ⟨?_, fun y hy => ((h2 x hx).2.2 y hy).1⟩) ht.2 (fun x hx => (h2 x hx).1) (ofString_ne (by decide)) (ofString_ne (by decide))
    · have key : ∀ g : G, (∀ x ∈ g, x.2.length ≤ 2) → (symsOf g).length ≤ 3 * g.length := by
        intro g
        induction g with
        | nil => intro _; simp [symsOf]
        | cons x g ih =>
          intro h
          have := ih fun y hy => h y (List.mem_cons_of_mem _ hy)
          have hx := h x List.mem_cons_self
          simp [symsOf] at this ⊢
          omega
      have := key ((sS, b0) :: g') fun x hx => (h2 x hx).2.1
      simp at this ⊢
      omega
    · rcases (h2 x hx).1 with e | e <;> rw [e] <;> decide

inductive J17a (ls : Addr) (cnt : Nat) (f : Fl) (m : Vars) (σ : Hp) : Prop
  | mk (h0 : f = .next) (h1 : m (Str.ofString "script") = some (.ref ls)) (h2 : m (Str.ofString "count") = some (.int (cnt : Nat))) (ag : Addr) (g : G) (h3 : m (Str.ofString "g") = some (.ref ag)) (h4 : GramP (own σ) ag g) (h5 : Built (cnt == 0) g)
inductive J17b (xs : List Int) (cnt : Nat) (ag : Addr) (g : G) (f : Fl) (m : Vars) (σ : Hp) : Prop
  | mk (h0 : f = .next) (h1 : m (Str.ofString "count") = some (.int (cnt : Nat))) (h2 : m (Str.ofString "g") = some (.ref ag)) (h3 : m (Str.ofString "pick") = some (.int ((cellOf xs 1).fmod 3))) (h4 : GramP (own σ) ag g) (lw : Addr) (t : List Str) (h5 : m (Str.ofString "word") = some (.ref lw)) (h6 : StrL (own σ) lw t) (h7 : Short t)
inductive J17c (cnt : Nat) (ag : Addr) (g : G) (f : Fl) (m : Vars) (σ : Hp) : Prop
  | mk (h0 : f = .next) (h1 : m (Str.ofString "count") = some (.int (cnt : Nat))) (h2 : m (Str.ofString "g") = some (.ref ag)) (h4 : GramP (own σ) ag g) (lw : Addr) (t : List Str) (h5 : m (Str.ofString "word") = some (.ref lw)) (h6 : StrL (own σ) lw t) (h7 : Short t)
inductive J17d (ag lw : Addr) (g : G) (t : List Str) (z : Bool) (f : Fl) (m : Vars) (σ : Hp) : Prop
  | mk (h0 : f = .next) (h1 : m (Str.ofString "g") = some (.ref ag)) (h2 : m (Str.ofString "word") = some (.ref lw)) (h3 : GramP (own σ) ag g) (h4 : StrL (own σ) lw t) (wn : Bool) (h5 : m (Str.ofString "want") = some (.bool wn)) (h6 : WantOf z g t wn)
theorem law_body (M : Mod) (hM : Ok M) (xs : List Int) (ls : Addr) (hz : xs.length ≤ 63) (c : Cx) (A : Around) (fa : Addr) (code : Value) {d : DefRec} (hd : (recsOf pw)[18]? = some d) (I : In M c (envOf d.name d.scope c.L fa code) 10) (hA : c.A = A.deeper (envOf d.name d.scope c.L fa code)) (K : Below A c.g [] c.g)
    (hls : baseOf c ls (.arr (xs.map V.int))) : X c NoE (execs d.body (envOf d.name d.scope c.L fa code)) (upd (fun _ => none) (Str.ofString "script") (.ref ls)) (fun _ => none) (fun f m σ => f = .ret (.bool true)) := by
  obtain rfl : _ = d := Option.some.inj hd
  have ho := I.env
  have hflat : flatSt ≠ [] := by decide
  have hrich : richSt ≠ [] := by decide
  dsimp only at ho I hA ⊢
  walk_at "run"
  refine call_def I (by rfl) (M.fn hM.p 16 (by rfl)) ?_
  walk_at "run"
  refine ⟨_, _, _, spec_cell M hM xs 0 ls (by omega) (by omega), by decide, .inr hls, fun v σ₁ _ hR => ?_⟩
  subst hR
  walk_at "run"
  refine op_mod (by decide) ?_
  have hc0 := Int.fmod_nonneg_of_pos (cellOf xs 0) (b := 4) (by decide)
  have hc1 := Int.fmod_lt_of_pos (cellOf xs 0) (b := 4) (by decide)
  obtain ⟨cnt, hcnt⟩ : ∃ cnt : Nat, (cellOf xs 0).fmod 4 = (cnt : Nat) := ⟨((cellOf xs 0).fmod 4).toNat, by omega⟩
  rw [hcnt] at hc1
  have hc3 : cnt ≤ 3 := by omega
  rw [hcnt]
  walk_at "stp"
  refine X.monoL (Q₁ := J17a ls cnt) (fun Qm hQm => ?_) ?_
  · walk_at "run"
    walk_at "op"
    refine ⟨_, rfl, fun hb => ?_, fun hb => ?_⟩
    · have hc : cnt = 0 := by simpa using hb
      walk_at "run"
      refine ⟨by simp, fun lf hlf => ?_⟩
      walk_at "run"
      refine call_def I (by rfl) (M.fn hM.p 17 (by rfl)) ?_
      walk_at "run"
      refine ⟨_, _, _, spec_picked M hM xs 4 flatSt ls lf (by omega) (by omega) hflat (by decide), by decide, ⟨.inr hls, .inl upd_self⟩, fun v σ₃ hext hR => ?_⟩
      obtain ⟨l0, rfl, o0⟩ := hR
      have o0 : σ₃ l0 = some (.list ((picked xs 4 flatSt).map V.str)) := o0
      have of : σ₃ lf = some (.tuple (flatSt.map V.str)) := hext _ _ upd_self
      clear hext
      walk_at "run"
      refine ⟨by simp, fun t0 ht0 => ?_⟩
      walk_at "run"
      refine call_def I (by rfl) (M.fn hM.p 17 (by rfl)) ?_
      walk_at "run"
      refine ⟨_, _, _, spec_picked M hM xs 6 flatSt ls lf (by omega) (by omega) hflat (by decide), by decide, ⟨.inr hls, .inl (upd_new ht0 of)⟩, fun v σ₄ hext hR => ?_⟩
      obtain ⟨l1, rfl, o1⟩ := hR
      have o1 : σ₄ l1 = some (.list ((picked xs 6 flatSt).map V.str)) := o1
      have o0 := hext _ _ (upd_new ht0 o0)
      have p0 : σ₄ t0 = some (.tuple [.str dol, .ref l0]) := hext _ _ upd_self
      clear hext
      walk_at "run"
      refine ⟨by simp, fun t1 ht1 => ?_⟩
      walk_at "run"
      refine ⟨by simp, fun lg hlg => ?_⟩
      walk_at "run"
      have hup : ∀ a o, σ₄ a = some o → upd (upd σ₄ t1 (.tuple [.str (Str.ofString "$"), .ref l1])) lg (.list [.ref t0, .ref t1]) a = some o := fun a o h => upd_new hlg (upd_new ht1 h)
      have hfb : ∀ y ∈ flatSt, y.length ≤ 1000 ∧ y ≠ dol := by decide
      refine ⟨rfl, by walk_at "vlook", by walk_at "vlook", lg, [(dol, picked xs 4 flatSt), (dol, picked xs 6 flatSt)], by walk_at "vlook", ⟨[t0, t1], upd_self, rfl, fun i r x hr hx => ?_⟩, ?_⟩
      · match i, hr, hx with
        | 0, hr, hx => cases hr; cases hx; exact ⟨l0, hup _ _ p0, hup _ _ o0⟩
        | 1, hr, hx => cases hr; cases hx; exact ⟨l1, upd_new hlg upd_self, hup _ _ o1⟩
      · rw [hc]
        exact ⟨_, _, rfl, picked_bd hflat hfb, picked_bd hflat hfb⟩
    · have hc : cnt ≠ 0 := by simpa using hb
      have hbz : (cnt == 0) = false := by simpa using hc
      have hrb : ∀ y ∈ richSt, y.length ≤ 1000 ∧ y ≠ dol := by decide
      have hnm : ∀ j, ∃ y, ([V.str sS, V.str sA] : List V)[((cellOf xs j).fmod 2).toNat]? = some (.str y) ∧ (y = sS ∨ y = sA) := fun j => by
        have h1 := Int.fmod_nonneg_of_pos (cellOf xs j) (b := 2) (by decide)
        have h2 := Int.fmod_lt_of_pos (cellOf xs j) (b := 2) (by decide)
        rcases (by omega : ((cellOf xs j).fmod 2).toNat = 0 ∨ ((cellOf xs j).fmod 2).toNat = 1) with e | e <;> rw [e]
        · exact ⟨sS, rfl, .inl rfl⟩
        · exact ⟨sA, rfl, .inr rfl⟩
      have hmb : ∀ j, (0 : Int) ≤ (cellOf xs j).fmod 2 ∧ (cellOf xs j).fmod 2 < 2 ^ 63 := fun j => by
        have h1 := Int.fmod_nonneg_of_pos (cellOf xs j) (b := 2) (by decide)
        have h2 := Int.fmod_lt_of_pos (cellOf xs j) (b := 2) (by decide)
        omega
      obtain ⟨y1, hy1, hy1'⟩ := hnm 10
      obtain ⟨y2, hy2, hy2'⟩ := hnm 11
      walk_at "run"
      refine ⟨by simp, fun ln hln => ?_⟩
      walk_at "run"
      refine ⟨by simp, fun lk hlk => ?_⟩
      have on : upd (upd σ₁ ln (.tuple [.str sS, .str sA])) lk (.tuple (richSt.map V.str)) ln = some (.tuple [.str sS, .str sA]) := upd_new hlk upd_self
      have ok' : upd (upd σ₁ ln (.tuple [.str sS, .str sA])) lk (.tuple (richSt.map V.str)) lk = some (.tuple (richSt.map V.str)) := upd_self
      walk_at "run"
      refine call_def I (by rfl) (M.fn hM.p 16 (by rfl)) ?_
      walk_at "run"
      refine ⟨_, _, _, spec_cell M hM xs 10 ls (by omega) (by omega), by decide, .inr hls, fun v σ₃ hext hR => ?_⟩
      subst hR
      have on := hext _ _ on
      have ok' := hext _ _ ok'
      clear hext
      walk_at "run"
      refine op_mod (by decide) ?_
      refine sub_tuple (.inl on) (hmb 10).1 (hmb 10).2 hy1 ?_
      walk_at "run"
      refine call_def I (by rfl) (M.fn hM.p 17 (by rfl)) ?_
      walk_at "run"
      refine ⟨_, _, _, spec_picked M hM xs 6 richSt ls lk (by omega) (by omega) hrich (by decide), by decide, ⟨.inr hls, .inl ok'⟩, fun v σ₄ hext hR => ?_⟩
      obtain ⟨l1, rfl, o1⟩ := hR
      have o1 : σ₄ l1 = some (.list ((picked xs 6 richSt).map V.str)) := o1
      have on := hext _ _ on
      have ok' := hext _ _ ok'
      clear hext
      walk_at "run"
      refine ⟨by simp, fun t1 ht1 => ?_⟩
      have on := upd_new (v := O.tuple [.str y1, .ref l1]) ht1 on
      have ok' := upd_new (v := O.tuple [.str y1, .ref l1]) ht1 ok'
      have o1 := upd_new (v := O.tuple [.str y1, .ref l1]) ht1 o1
      have p1 : upd σ₄ t1 (.tuple [.str y1, .ref l1]) t1 = some (.tuple [.str y1, .ref l1]) := upd_self
      walk_at "run"
      refine call_def I (by rfl) (M.fn hM.p 16 (by rfl)) ?_
      walk_at "run"
      refine ⟨_, _, _, spec_cell M hM xs 11 ls (by omega) (by omega), by decide, .inr hls, fun v σ₅ hext hR => ?_⟩
      subst hR
      have on := hext _ _ on
      have ok' := hext _ _ ok'
      have o1 := hext _ _ o1
      have p1 := hext _ _ p1
      clear hext
      walk_at "run"
      refine op_mod (by decide) ?_
      refine sub_tuple (.inl on) (hmb 11).1 (hmb 11).2 hy2 ?_
      walk_at "run"
      refine call_def I (by rfl) (M.fn hM.p 17 (by rfl)) ?_
      walk_at "run"
      refine ⟨_, _, _, spec_picked M hM xs 8 richSt ls lk (by omega) (by omega) hrich (by decide), by decide, ⟨.inr hls, .inl ok'⟩, fun v σ₆ hext hR => ?_⟩
      obtain ⟨l2, rfl, o2⟩ := hR
      have o2 : σ₆ l2 = some (.list ((picked xs 8 richSt).map V.str)) := o2
      have ok' := hext _ _ ok'
      have o1 := hext _ _ o1
      have p1 := hext _ _ p1
      clear hext
      walk_at "run"
      refine ⟨by simp, fun t2 ht2 => ?_⟩
      have ok' := upd_new (v := O.tuple [.str y2, .ref l2]) ht2 ok'
      have o1 := upd_new (v := O.tuple [.str y2, .ref l2]) ht2 o1
      have p1 := upd_new (v := O.tuple [.str y2, .ref l2]) ht2 p1
      have o2 := upd_new (v := O.tuple [.str y2, .ref l2]) ht2 o2
      have p2 : upd σ₆ t2 (.tuple [.str y2, .ref l2]) t2 = some (.tuple [.str y2, .ref l2]) := upd_self
      walk_at "run"
      refine call_def I (by rfl) (M.fn hM.p 17 (by rfl)) ?_
      walk_at "run"
      refine ⟨_, _, _, spec_picked M hM xs 4 richSt ls lk (by omega) (by omega) hrich (by decide), by decide, ⟨.inr hls, .inl ok'⟩, fun v σ₇ hext hR => ?_⟩
      obtain ⟨l0, rfl, o0⟩ := hR
      have o0 : σ₇ l0 = some (.list ((picked xs 4 richSt).map V.str)) := o0
      have o1 := hext _ _ o1
      have p1 := hext _ _ p1
      have o2 := hext _ _ o2
      have p2 := hext _ _ p2
      clear hext
      walk_at "run"
      refine ⟨by simp, fun t0 ht0 => ?_⟩
      walk_at "run"
      refine ⟨by simp, fun lg hlg => ?_⟩
      walk_at "run"
      refine ⟨lg, _, cnt, rfl, rfl, .inl upd_self, by simp, fun lh hlh => ?_⟩
      walk_at "run"
      have hup : ∀ a o, σ₇ a = some o → upd (upd (upd σ₇ t0 (.tuple [.str sS, .ref l0])) lg (.list [.ref t0, .ref t1, .ref t2])) lh (.list ([V.ref t0, .ref t1, .ref t2].take cnt)) a = some o := fun a o h => upd_new hlh (upd_new hlg (upd_new ht0 h))
      have p0 : upd (upd (upd σ₇ t0 (.tuple [.str sS, .ref l0])) lg (.list [.ref t0, .ref t1, .ref t2])) lh (.list ([V.ref t0, .ref t1, .ref t2].take cnt)) t0 = some (.tuple [.str sS, .ref l0]) := upd_new hlh (upd_new hlg upd_self)
      refine ⟨rfl, by walk_at "vlook", by walk_at "vlook", lh, [(sS, picked xs 4 richSt), (y1, picked xs 6 richSt), (y2, picked xs 8 richSt)].take cnt, by walk_at "vlook", ⟨[t0, t1, t2].take cnt, by rw [List.map_take]; exact upd_self, by simp, fun i r x hr hx => ?_⟩, ?_⟩
      · have hr : [t0, t1, t2][i]? = some r := by
          rw [List.getElem?_take] at hr; split at hr
          · exact hr
          · cases hr
        have hx : [(sS, picked xs 4 richSt), (y1, picked xs 6 richSt), (y2, picked xs 8 richSt)][i]? = some x := by
          rw [List.getElem?_take] at hx; split at hx
          · exact hx
          · cases hx
        match i, hr, hx with
        | 0, hr, hx => cases hr; cases hx; exact ⟨l0, p0, hup _ _ o0⟩
        | 1, hr, hx => cases hr; cases hx; exact ⟨l1, hup _ _ p1, hup _ _ o1⟩
        | 2, hr, hx => cases hr; cases hx; exact ⟨l2, hup _ _ p2, hup _ _ o2⟩
      · rw [hbz]
        obtain ⟨n, rfl⟩ : ∃ n, cnt = n + 1 := ⟨cnt - 1, by omega⟩
        refine ⟨picked xs 4 richSt, [(y1, picked xs 6 richSt), (y2, picked xs 8 richSt)].take n, rfl, by rw [List.length_take]; exact Nat.min_le_right _ _, fun x hx => ?_⟩
        have hx := List.mem_of_mem_take hx
        rcases List.mem_cons.mp hx with rfl | hx
        · exact ⟨.inl rfl, picked_bd hrich hrb⟩
        rcases List.mem_cons.mp hx with rfl | hx
        · exact ⟨hy1', picked_bd hrich hrb⟩
        · rw [List.mem_singleton.mp hx]
          exact ⟨hy2', picked_bd hrich hrb⟩
  · rintro f m σ ⟨rfl, v1, v2, ag, g, v3, hG, hB⟩
    obtain ⟨x0, hx0, hgl, hshort⟩ := built_at hB
    dsimp only
    walk_at "run"
    refine call_def I (by rfl) (M.fn hM.p 17 (by rfl)) ?_
    walk_at "run"
    refine ⟨by simp, fun lk hlk => ?_⟩
    walk_at "run"
    refine ⟨_, _, _, spec_picked M hM xs 2 wordSt ls lk (by omega) (by omega) (by decide) (by decide), by decide, ⟨.inr hls, .inl upd_self⟩, fun v σ₃ hext hR => ?_⟩
    obtain ⟨lw, rfl, ow⟩ := hR
    have ow : StrL (own σ₃) lw (picked xs 2 wordSt) := ow
    have hG := GramP.mono _ _ (fun a o h => hext _ _ (upd_new hlk h)) hG
    have hG : GramP (own σ₃) ag g := hG
    have hsw : Short (picked xs 2 wordSt) := ⟨(picked_mem (by decide)).1, fun y hy => (by decide : ∀ y ∈ wordSt, y.length ≤ 1000) y ((picked_mem (by decide)).2 y hy)⟩
    generalize picked xs 2 wordSt = t at ow hsw
    clear hext
    walk_at "run"
    refine call_def I (by rfl) (M.fn hM.p 16 (by rfl)) ?_
    walk_at "run"
    refine ⟨_, _, _, spec_cell M hM xs 1 ls (by omega) (by omega), by decide, .inr hls, fun v σ₄ hext hR => ?_⟩
    subst hR
    have hG : GramP (own σ₄) ag g := GramP.mono _ _ (fun a o h => hext _ _ h) hG
    have ow : StrL (own σ₄) lw t := hext _ _ ow
    clear hext
    walk_at "run"
    refine op_mod (by decide) ?_
    walk_at "stp"
    refine X.monoL (Q₁ := J17b xs cnt ag g) (fun Qm hQm => ?_) ?_
    · walk_at "run"
      walk_at "op"
      refine ⟨_, rfl, fun hb => ?_, fun hb => ?_⟩
      · obtain ⟨rs, r, l, k1, k2, k3, k4, k5⟩ := hG.at hx0
        walk_at "run"
        refine sub_list (.inl k1) (by decide) (by decide) (ref_get k3) ?_
        walk_at "run"
        walk_at "op"
        refine ⟨l, _, rfl, .inl k5, by have := (hshort _ (List.mem_of_getElem? hx0)).1; simp; omega, fun ln hln => ?_⟩
        walk_at "run"
        exact ⟨rfl, by walk_at "vlook", by walk_at "vlook", by walk_at "vlook", GramP.mono _ _ (own_new hln) hG, ln, _, by walk_at "vlook", upd_self, hshort _ (List.mem_of_getElem? hx0)⟩
      · walk_at "run"
        exact ⟨rfl, by walk_at "vlook", by walk_at "vlook", by walk_at "vlook", hG, lw, t, by walk_at "vlook", ow, hsw⟩
    clear v1 v2 v3 hG ow hsw
    rintro f m₁ σ₂ ⟨rfl, v2, v3, v5, hG, lw, t, v4, ow, hsw⟩
    dsimp only
    walk_at "stp"
    refine X.monoL (Q₁ := J17c cnt ag g) (fun Qm hQm => ?_) ?_
    · walk_at "run"
      walk_at "op"
      refine ⟨_, rfl, fun hb => ?_, fun hb => ?_⟩
      · have hgp : 0 < g.length := (List.getElem?_eq_some_iff.mp hx0).1
        have hxl : g[g.length - 1]? = some (g[g.length - 1]'(by omega)) := by simp [hgp]
        obtain ⟨rs, r, l, k1, k2, k3, k4, k5⟩ := hG.at hxl
        have hrs : rs.map V.ref = rs.dropLast.map V.ref ++ [V.ref r] := by
          have hne : rs ≠ [] := fun q => by rw [q] at k2; simp at k2; omega
          have hl : rs.getLast hne = r := by
            rw [List.getLast_eq_getElem]
            have := (List.getElem?_eq_some_iff.mp (k2 ▸ k3 : rs[rs.length - 1]? = some r)).2
            exact this
          rw [← hl, ← List.map_singleton, ← List.map_append, List.dropLast_concat_getLast hne]
        rw [hrs] at k1
        walk_at "run"
        intro va ha
        refine op_neg ha ?_
        refine sub_last (.inl k1) ?_
        walk_at "run"
        walk_at "op"
        have hsx := hshort _ (List.mem_of_getElem? hxl)
        refine ⟨l, _, rfl, .inl k5, by have := hsx.1; simp; omega, fun ln hln => ?_⟩
        walk_at "run"
        exact ⟨rfl, by walk_at "vlook", by walk_at "vlook", GramP.mono _ _ (own_new hln) hG, ln, _, by walk_at "vlook", upd_self, hsx⟩
      · walk_at "run"
        exact ⟨rfl, by walk_at "vlook", by walk_at "vlook", hG, lw, t, by walk_at "vlook", ow, hsw⟩
    clear v2 v3 v4 v5 hG ow hsw
    rintro f m₁ σ₂ ⟨rfl, v2, v3, hG, lw, t, v4, ow, hsw⟩
    dsimp only
    walk_at "stp"
    walk_at "stp"
    walk_at "stp"
    walk_at "stp"
    refine X.monoL (Q₁ := J17d ag lw g t (cnt == 0)) (fun Qm hQm => ?_) ?_
    · walk_at "run"
      walk_at "op"
      refine ⟨_, rfl, fun hb => ?_, fun hb => ?_⟩
      · have hbz : (cnt == 0) = true := by simpa using hb
        rw [hbz] at hB hQm
        obtain ⟨b0, b1, rfl, hb0, hb1⟩ := hB
        obtain ⟨rs, r0, l0, k1, k2, k3, k4, k5⟩ := hG.at (i := 0) rfl
        obtain ⟨rs', r1, l1, j1, j2, j3, j4, j5⟩ := hG.at (i := 1) rfl
        obtain rfl : rs = rs' := by
          rw [k1] at j1
          injection j1 with j1
          injection j1 with j1
          exact List.map_inj_right (fun x y e => by injection e) |>.mp j1
        have hG0 := hG
        walk_at "run"
        refine sub_list (.inl k1) (by decide) (by decide) (ref_get k3) ?_
        walk_at "run"
        walk_at "op"
        walk_at "run"
        refine ⟨l0, _, 1, rfl, rfl, .inl k5, by have := hb0.1; simp; omega, fun s0 hs0 => ?_⟩
        rw [← List.map_take]
        have k1 := upd_new (v := O.list ((b0.take 1).map V.str)) hs0 k1
        have j4 := upd_new (v := O.list ((b0.take 1).map V.str)) hs0 j4
        have j5 := upd_new (v := O.list ((b0.take 1).map V.str)) hs0 j5
        have e0 : upd σ₂ s0 (O.list ((b0.take 1).map V.str)) s0 = _ := upd_self
        walk_at "run"
        refine sub_list (.inl k1) (by decide) (by decide) (ref_get j3) ?_
        walk_at "run"
        walk_at "op"
        walk_at "run"
        refine ⟨l1, _, 1, rfl, rfl, .inl j5, by have := hb1.1; simp; omega, fun s1 hs1 => ?_⟩
        rw [← List.map_take]
        refine op_ne_strs I.room.units (.inl (upd_new hs1 e0)) (.inl upd_self) ⟨_, rfl, fun hb => ?_, fun hb => ?_⟩
        · have hne : b0.take 1 ≠ b1.take 1 := by simpa using hb
          have ow : σ₂ lw = some (.list (t.map V.str)) := ow
          walk_at "run"
          refine sub_list (.inl (upd_new hs1 k1)) (by decide) (by decide) (ref_get k3) ?_
          walk_at "run"
          walk_at "op"
          walk_at "run"
          refine sub_list (.inl (upd_new hs1 k1)) (by decide) (by decide) (ref_get j3) ?_
          walk_at "run"
          walk_at "op"
          walk_at "run"
          refine ⟨by simp, fun li hli => ?_⟩
          refine op_in_two (by have := I.room.2.2; show c.A.units + 2 < 9900; omega) (.inl upd_self) (.inl (upd_new hli (upd_new hs1 (upd_new hs0 k5)))) (.inl (upd_new hli (upd_new hs1 j5))) (.inl (upd_new hli (upd_new hs1 (upd_new hs0 ow)))) ⟨_, rfl, fun hb => ?_, fun hb => ?_⟩
          · have hin : t = b0 ∨ t = b1 := by simpa using hb
            walk_at "run"
            refine ⟨fun _ => ?_, fun h => (nomatch h)⟩
            walk_at "run"
            exact ⟨rfl, by walk_at "vlook", by walk_at "vlook", GramP.mono _ _ (fun a o h => upd_new hli (upd_new hs1 (upd_new hs0 h))) hG0, upd_new hli (upd_new hs1 (upd_new hs0 ow)), false, by walk_at "vlook", fun _ => ⟨b0, b1, rfl, by simp [hne, hin]⟩, fun h => (nomatch h)⟩
          · have hin : ¬ (t = b0 ∨ t = b1) := by simpa using hb
            walk_at "run"
            refine ⟨fun h => (nomatch h), fun _ => ?_⟩
            walk_at "run"
            exact ⟨rfl, by walk_at "vlook", by walk_at "vlook", GramP.mono _ _ (fun a o h => upd_new hli (upd_new hs1 (upd_new hs0 h))) hG0, upd_new hli (upd_new hs1 (upd_new hs0 ow)), true, by walk_at "vlook", fun _ => ⟨b0, b1, rfl, by simp [hin]⟩, fun h => (nomatch h)⟩
        · have hne : b0.take 1 = b1.take 1 := by simpa using hb
          walk_at "run"
          refine ⟨fun h => (nomatch h), fun _ => ?_⟩
          walk_at "run"
          exact ⟨rfl, by walk_at "vlook", by walk_at "vlook", GramP.mono _ _ (fun a o h => upd_new hs1 (upd_new hs0 h)) hG0, upd_new hs1 (upd_new hs0 ow), true, by walk_at "vlook", fun _ => ⟨b0, b1, rfl, by simp [hne]⟩, fun h => (nomatch h)⟩
      · have hbz : (cnt == 0) = false := by simpa using hb
        rw [hbz] at hQm
        walk_at "run"
        refine ⟨fun h => (nomatch h), fun _ => ?_⟩
        walk_at "run"
        exact ⟨rfl, by walk_at "vlook", by walk_at "vlook", hG, ow, true, by walk_at "vlook", fun h => (nomatch h), fun _ => rfl⟩
    clear v2 v3 v4 hG ow
    rintro f m₁ σ₂ ⟨rfl, v3, v4, hG, ow, wn, v5, hW⟩
    have ow : σ₂ lw = some (.list (t.map V.str)) := ow
    dsimp only
    obtain ⟨rs, q1, q2, q3⟩ := hG
    have q1 : σ₂ ag = some (.list (rs.map V.ref)) := q1
    have hG : GramP (own σ₂) ag g := ⟨rs, q1, q2, q3⟩
    walk_at "stp"
    refine assign_comp I.room.1 ho (by rfl) (cl := []) (fun _ => .list ag (rs.map V.ref)) (fun _ k ys σ' => (∀ a o, σ₂ a = some o → σ' a = some o) ∧ ∃ ks : List Addr, ys = ks.map V.ref ∧ ks.length = k ∧ ∀ (i : Nat) r x, ks[i]? = some r → g[i]? = some x → RuleP (own σ') r x)
      ?_ (fun _ k ys σ' h => .inl (h.1 _ _ q1)) (fun _ k ys σ' u C hI' hu' hoC => ?_) (by rfl) (by decide) (by rfl) (by decide) (by decide)
    · walk_at "run"
      refine ⟨⟨rfl, .inl q1⟩, ⟨fun a o h => h, [], rfl, rfl, fun i r x h => by simp at h⟩, by simp [Src.items]; omega, fun ys σ₃ lk hI' hlk => ?_⟩
      obtain ⟨hup, ks, rfl, hkl, hks⟩ := hI'
      have hlen : (Src.list ag (rs.map V.ref)).items.length = g.length := by simp [Src.items, q2]
      rw [hlen] at hkl
      have hK : GramP (own (upd σ₃ lk (.list (ks.map V.ref)))) lk g := ⟨ks, upd_self, hkl, fun i r x h1 h2 => (hks i r x h1 h2).mono fun a o h => upd_new hlk h⟩
      have hG' : GramP (own (upd σ₃ lk (.list (ks.map V.ref)))) ag g := GramP.mono _ _ (fun a o h => upd_new hlk (hup a o h)) hG
      have ow' : upd σ₃ lk (.list (ks.map V.ref)) lw = some (.list (t.map V.str)) := upd_new hlk (hup _ _ ow)
      generalize upd σ₃ lk (.list (ks.map V.ref)) = σ₄ at hK hG' ow'
      walk_at "run"
      refine ⟨lw, _, rfl, .inl ow', by have := hsw.1; simp; omega, fun ld hld => ?_⟩
      walk_at "run"
      have hK : GramP (Sees c (upd σ₄ ld (.list (t.map V.str)))) lk g := GramP.mono _ _ (fun a o h => .inl (upd_new hld h)) hK
      have hG' : GramP (Sees c (upd σ₄ ld (.list (t.map V.str)))) ag g := GramP.mono _ _ (fun a o h => .inl (upd_new hld h)) hG'
      refine call_defB I hA K (by rfl) (by rfl) (M.fn hM.p 15 (by rfl)) ?_
      walk_at "run"
      refine ⟨_, _, _, law_spec M hM hB hW hsw ag lw, by decide, ⟨hG', .inl (upd_new hld ow')⟩, fun v hv => ?_⟩
      subst hv
      walk_at "run"
      refine call_type_bool hM I (by rfl) ?_
      walk_at "run"
      refine ⟨_, rfl, ?_⟩
      refine name_blt hM I (by rfl) (by decide) (val := .type "bool") (by decide +kernel) (by decide) ?_
      refine op_isnot_same ⟨_, rfl, fun h => (nomatch h), fun _ => ?_⟩
      walk_at "run"
      walk_at "op"
      refine ⟨_, rfl, fun h => absurd h (by simp), fun _ => ?_⟩
      walk_at "run"
      refine op_ne_gram (by have := I.room.2.2; show c.A.units + 2 < 9900; omega) hG' hK ⟨_, rfl, fun h => (nomatch h), fun _ => ?_⟩
      walk_at "run"
      refine op_ne_strs I.room.units (.inl (upd_new hld ow')) (.inl upd_self) ⟨_, rfl, fun h => absurd h (by simp), fun _ => ?_⟩
      walk_at "run"
    · obtain ⟨hup, ks, rfl, hkl, hks⟩ := hI'
      have hu' : (rs.map V.ref)[k]? = some u := hu'
      obtain ⟨r, hr, rfl⟩ := map_get hu'
      obtain ⟨⟨hd, bd⟩, hx⟩ := get_same q2 hr
      obtain ⟨b, k1, k2⟩ := q3 k r _ hr hx
      have k1 : σ' r = some (.tuple [.str hd, .ref b]) := hup _ _ k1
      have k2 : σ' b = some (.list (bd.map V.str)) := hup _ _ k2
      have hbl := (hshort _ (List.mem_of_getElem? hx)).1
      dsimp only at hbl
      walk_at "run"
      walk_at "op"
      walk_at "run"
      walk_at "op"
      refine ⟨b, _, rfl, .inl k2, by simp; omega, fun lb hlb => ?_⟩
      walk_at "run"
      refine ⟨by simp, fun tt htt => ?_⟩
      have hup2 : ∀ a o, σ' a = some o → upd (upd σ' lb (.list (bd.map V.str))) tt (.tuple [.str hd, .ref lb]) a = some o := fun a o h => upd_new htt (upd_new hlb h)
      refine ⟨fun a o h => hup2 a o (hup a o h), ks ++ [tt], by simp, by simp [hkl], fun i r' x' h1 h2 => ?_⟩
      rcases get_snoc h1 with ⟨q, _⟩ | ⟨rfl, rfl⟩
      · exact (hks i r' x' q h2).mono fun a o h => hup2 a o h
      · rw [hkl, hx] at h2
        cases h2
        exact ⟨lb, upd_self, upd_new htt upd_self⟩

theorem law_run (M : Mod) (hM : Ok M) (xs : List Int) (ls : Addr) (hz : xs.length ≤ 63) (A : Around) (s : Shared) (fa : Addr) (hroom : Room 11 A) (T : M.Top s.heap) (hmg : M.mg (Str.ofString "law") = some (.ref fa)) (hls : (O.arr (xs.map V.int)).At M.p M.w s.heap ls) (hg : s.gens = #[]) (K : Below A s.heap [] s.heap) :
    codeAny (model M.p M.w) A (.call (.ref fa) ⟨[.ref ls], []⟩) (fun r s' => r = .ok (.ret (.bool true)) ∧ (∀ b o, s.heap.get? b = some o → s'.heap.get? b = some o) ∧ s'.os = s.os ∧ s'.gens = #[]) s := by
  have key : ∀ d, (recsOf pw)[18]? = some d → d.name = Str.ofString "law" → (∀ vals pm code doc, vals = [Value.ref ls] → bindArgs (docDef d.name d.params d.body d.scope pm code doc) ⟨vals, []⟩ = pure ([Str.ofString "script"].zip vals)) → d.scope.names.lookup (Str.ofString "script") = some .local →
      (d.scope.names.all fun x => x.2 != .cell) = true → d.scope.isCoroutine = false → d.scope.isGenerator = false → d.scope.kind = .function → codeAny (model M.p M.w) A (.call (.ref fa) ⟨[.ref ls], []⟩) (fun r s' => r = .ok (.ret (.bool true)) ∧ (∀ b o, s.heap.get? b = some o → s'.heap.get? b = some o) ∧ s'.os = s.os ∧ s'.gens = #[]) s := fun d hd hname hbind hloc hcell hco hgen hk => by
    obtain ⟨f, o, pm, code, doc, h1, h2, h3, h4⟩ := M.fnAt hM.p T hd
    rw [hname] at h1
    obtain rfl := same_addr h1 hmg
    refine call_plain hroom.depth h2 h3 T.nolimit h4 (hbind _ pm code doc rfl) (fun x hx => by rw [List.mem_singleton.mp hx]; exact hloc) (fun h₁ F => ?_) hco hgen hk (fun x hx => by simpa using List.all_eq_true.mp hcell x hx)
    have I : In M { prog := M.p, w := M.w, A := A.deeper (envOf d.name d.scope s.heap.objs.size f code), g := s.heap, L := s.heap.objs.size, os := s.os } (envOf d.name d.scope s.heap.objs.size f code) 10 :=
      ⟨⟨rfl, hk, rfl, rfl⟩, rfl, rfl, T, hroom.deeper _⟩
    refine wpAny_mono (law_body M hM xs ls hz _ A f code hd I rfl K hls { s with heap := h₁, toks := s.toks + 1 } ⟨⟨_, F.ns, fun y v e => ?_⟩, F.keep, fun _ _ e => (nomatch e), Nat.le_refl _, hg, rfl⟩) (fun fl s' ⟨m', σ', p, hfl⟩ => ?_) fun _ _ e => e.elim
    · unfold upd at e
      split at e
      · rename_i hx; subst hx; cases e; exact ⟨.ref ls, by simp, rfl⟩
      · cases e
    · cases fl with
      | ret v =>
        have hv : er v = .bool true := by simpa [erF] using hfl
        have := er_bool hv
        subst this
        exact ⟨rfl, p.st.keep, p.st.os, p.st.gens⟩
      | next => cases hfl
      | brk => cases hfl
      | cont => cases hfl
  exact key _ rfl rfl (fun vals pm code doc h => by subst h; rfl) rfl (by decide) rfl rfl rfl

end Mine

namespace Mine
open PySem PySem.W PyProof.Rows
theorem arr_of_ints {p : Program} {w : World} {h : Heap} {l : Addr} {vs : List Value} {ns : List Int} (hl : h.IsList l vs.toArray) (hi : IntsAre vs ns) : (O.arr (ns.map V.int)).At p w h l := by
  refine ⟨_, hl, ?_⟩
  show vs.map er = ns.map V.int
  clear hl
  induction hi with
  | nil => rfl
  | cons n t _ ih => simp only [List.map_cons, er, ih]
theorem post_true {R : WRecords} {args ds : List WData} : (WTm.eq .res (.lit (.bool true))).holds R { args := args, res := some (.bool true), after := ds } = true := by
  unfold WTm.holds
  rw [PySem.W.w_eq (PySem.W.w_res rfl) PySem.W.w_lit]
  have : PySem.W.same (WData.bool true) (WData.bool true) = true := by first | rfl | decide +kernel | simp [PySem.W.same]
  rw [this]
theorem post_row {l : OpenLaw} {args : List WData} : l.row.toRowW.claim.post args (.bool true) args = true := by
  show (WShape.has [] (WData.bool true) WShape.bool && (WTm.eq .res (.lit (.bool true))).holds [] { args := args, res := some (.bool true), after := args }) = true
  rw [post_true]
  first | rfl | decide +kernel | simp [WShape.has]
theorem ok_of {q : Program} {w : World} {mean : ExcName → Option Value} {mg mb : Str → Option Value} {h : Heap} (T : Top q (looseW q []) mean mg mb h) (e1 : recsOf q = recsOf pw)
    (e2 : specOf q (Str.ofString "ParseError") = some ("Exception.__new__", [.type "Exception", .type "BaseException", .type "object"]))
    (e3 : ∀ x ∈ blts, x ∉ startupNames ∧ x ∉ looseW q [] ∧ x ∉ (recsOf q).map (·.name) ∧ x ∉ (litsOf q).map (·.1) ∧ x ∉ (clssOf q (looseW q [])).map (·.name)) :
    Ok ⟨pw, q, w, looseW q [], mean, mg, mb⟩ :=
  ⟨e1, e2, fun x hx => let ⟨a, b, c, d, e⟩ := e3 x hx; T.free x a b c d e⟩
end Mine
open PySem PySem.W PyProof.Rows
set_option maxHeartbeats 8000000 in
theorem PySem.Challenge.cw_k18_0038_holds : PySem.Challenge.rw_k18_0038.Holds := by
  w_on
  o_law
  o_head Hook.none
  case hw => w_witness2
  intro w s₀ s₁ mg mb G Y fa o pm cd doc dV kV ho hd hcd hD hmg hg args vals as hpre hlay hrd hwl hlo
  refine Ground.open G ?_
  intro T B D TE TW
  wrow_args hpre hlay hrd hwl hlo
  all_goals (first | refine callC_kw (enter_call ?_) | refine enter_call ?_ | refine callC_kw (enter_callW ?_) | refine enter_callW ?_ | w_how)
  all_goals w_top on
  all_goals (try refine codeAny_mono ?_ (fun _ _ g => GoodW.toG g))
  rename IntsAre _ _ => hI
  rename Heap.IsList _ _ _ => hL
  have hM := Mine.ok_of (w := w) T (by kernel_rfl) (by decide +kernel) (by decide +kernel)
  refine codeAny_mono (Mine.law_run _ hM _ _ (by omega) callerA s₁ fa ⟨rfl, by decide, by decide⟩ T hmg (Mine.arr_of_ints hL hI) hg (below_caller _)) (fun r s' hq => ?_)
  obtain ⟨rfl, k1, k2, k3⟩ := hq
  exact ⟨.inl ⟨_, .bool true, [], rfl, fun _ => rfl, .bool true, Mine.post_row, fun _ => ⟨.nil, fun _ h => nomatch h⟩⟩, k1, k2, k3⟩
