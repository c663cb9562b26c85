import PyProof.Rows.All
import Wide.All
import OpenK.AllK
import Wide.FinOn
import HandS.ForMost
import HandS.EndBits
import HandS.Wide
import HandS.IsInst
import HandS.More
import HandS.NoneIn
import HandS.Lambda
import HandS.EndTab
import HandS.SortKw
import HandS.Deep
import KE.DataMinMax
import KE.SortKeyHeap
import HandS.Zip
import HandS.SetFor
import HandS.Conv
import HandS.Style
import HandS.ExcValue
import HandS.ExcIs
import HandS.WordsExc
import KE.GoesComp
import HandS.Text
import HandS.Replace
import HandS.ReplaceLit
import HandS.Dict
import HandS.TryElse
import PySem.Challenge.RW_leastfloor_k71_the_six_kinds
set_option Elab.async false
set_option linter.all false
set_option maxRecDepth 100000
set_option maxHeartbeats 4000000
/-! Fx: a typed, pure layer over the hand layer: each expression and statement has a plain function of its names' values. -/
namespace Fx
open PySem PySem.Spec L2

/-! ### outcomes -/
inductive Rs (α : Type) where
  | ok (a : α) | exc (c : Str) | bad
def Rs.bind {α β : Type} (m : Rs α) (k : α → Rs β) : Rs β := match m with
  | .ok a => k a
  | .exc c => .exc c
  | .bad => .bad
def Rs.map {α β : Type} (f : α → β) (m : Rs α) : Rs β := m.bind fun a => .ok (f a)
@[simp] theorem Rs.bind_ok {α β : Type} (a : α) (k : α → Rs β) : (Rs.ok a).bind k = k a := rfl
@[simp] theorem Rs.bind_exc {α β : Type} (c : Str) (k : α → Rs β) : (Rs.exc c : Rs α).bind k = .exc c := rfl
@[simp] theorem Rs.bind_bad {α β : Type} (k : α → Rs β) : (Rs.bad : Rs α).bind k = .bad := rfl
@[simp] theorem Rs.map_ok {α β : Type} (f : α → β) (a : α) : (Rs.ok a).map f = .ok (f a) := rfl
theorem Rs.bind_assoc {α β γ : Type} (m : Rs α) (k : α → Rs β) (l : β → Rs γ) : (m.bind k).bind l = m.bind fun a => (k a).bind l := by cases m <;> rfl
def Good {α : Type} (m : Rs α) (Q : α → Prop) (R : Str → Prop) : Prop := match m with
  | .ok a => Q a
  | .exc c => R c
  | .bad => False
theorem good_bind {α β : Type} {m : Rs α} {k : α → Rs β} {Q : β → Prop} {R : Str → Prop} (h : Good (m.bind k) Q R) : Good m (fun a => Good (k a) Q R) R := by
  cases m <;> exact h
theorem Good.mono {α : Type} {m : Rs α} {Q Q' : α → Prop} {R R' : Str → Prop} (h : Good m Q R) (hq : ∀ a, m = .ok a → Q a → Q' a) (hr : ∀ c, R c → R' c) : Good m Q' R' := by
  cases m with
  | ok a => exact hq a rfl h
  | exc c => exact hr c h
  | bad => exact h

/-! ### a choice that is never reckoned out -/
noncomputable def cIf {α : Type} (p : Prop) (a b : α) : α := @ite α p (Classical.propDecidable p) a b
theorem cIf_pos {α : Type} {p : Prop} {a b : α} (h : p) : cIf p a b = a := by unfold cIf; exact if_pos h
theorem cIf_neg {α : Type} {p : Prop} {a b : α} (h : ¬ p) : cIf p a b = b := by unfold cIf; exact if_neg h

/-! ### heaps: what stays -/
/-- no table of code objects -/
def NT (o : HO) : Prop := ∀ ps, o ≠ .tbl ps
theorem nt_lst {xs : List V} : NT (.lst xs) := nofun
theorem nt_tup {xs : List V} : NT (.tup xs) := nofun
theorem nt_frz {o : Obj} {u : HO} : NT (.frz o u) := nofun
theorem nt_dK {xs : List (Key × V)} : NT (.dK xs) := nofun
theorem nt_ins {C dx : Addr} {fs : List (Str × V)} : NT (.ins C dx fs) := nofun
theorem nt_dT {xs : List (List Key × V)} : NT (.dT xs) := nofun
theorem nt_set {S : Int → Bool} {n : Nat} : NT (.set S n) := nofun
theorem nt_own {x : Addr} : NT (.own x) := nofun
/-- the tables of code objects that a law meets -/
class Tbs where
  T : List (Addr × Str)
instance (priority := low) noTbs : Tbs := ⟨[]⟩
/-- all but tables stays -/
structure Wk (H H' : Hp) : Prop where
  get : ∀ b o, H b = some o → (_ : NT o := by first | assumption | exact nt_lst | exact nt_tup | exact nt_frz | exact nt_dK | exact nt_ins | exact nt_own | exact nt_dT | exact nt_set) → H' b = some o
theorem Wk.refl (H : Hp) : Wk H H := ⟨fun _ _ h _ => h⟩
theorem Wk.trans {H H1 H2 : Hp} (a : Wk H H1) (b : Wk H1 H2) : Wk H H2 := ⟨fun c o h n => b.get c o (a.get c o h n) n⟩
theorem Wk.tup {K : PySem.W.Frag} {H H' : Hp} {a : Addr} {xs : List V} (e : Wk H H') (h : SqT K H a xs) : SqT K H' a xs := by
  rcases h with (h | ⟨o, h⟩) | h
  · exact .inl (.inl (e.get _ _ h nt_tup))
  · exact .inl (.inr ⟨o, e.get _ _ h nt_frz⟩)
  · exact .inr h
theorem Wk.seq {K : PySem.W.Frag} {H H' : Hp} {a : Addr} {xs : List V} (e : Wk H H') (h : SqL K H a xs) : SqL K H' a xs := by
  rcases h with (h | ⟨o, h⟩) | h
  · exact .inl (.inl (e.get _ _ h nt_lst))
  · exact .inl (.inr ⟨o, e.get _ _ h nt_frz⟩)
  · exact .inr h
section
variable [Tbs]
/-- .. a table may grow -/
structure Same (H H' : Hp) : Prop where
  wk : Wk H H'
  tbl : ∀ b ps, H b = some (.tbl ps) → ∃ more, H' b = some (.tbl (ps ++ more))
  tab : LamX.Tabs Tbs.T H → LamX.Tabs Tbs.T H'
instance {H H' : Hp} : Coe (Same H H') (Wk H H') := ⟨Same.wk⟩
theorem Same.get {H H' : Hp} (e : Same H H') (b : Addr) (o : HO) (h : H b = some o) (_ : NT o := by first | assumption | exact nt_lst | exact nt_tup | exact nt_frz | exact nt_dK | exact nt_ins | exact nt_own | exact nt_dT | exact nt_set) : H' b = some o := e.wk.get b o h ‹_›
theorem Same.refl (H : Hp) : Same H H := ⟨Wk.refl H, fun b ps h => ⟨#[], by simpa using h⟩, fun h => h⟩
theorem Same.trans {H H1 H2 : Hp} (a : Same H H1) (b : Same H1 H2) : Same H H2 := ⟨a.wk.trans b.wk, fun c ps h => by
  obtain ⟨m1, h1⟩ := a.tbl c ps h
  obtain ⟨m2, h2⟩ := b.tbl c _ h1
  exact ⟨m1 ++ m2, by rw [← Array.append_assoc]; exact h2⟩, fun h => b.tab (a.tab h)⟩
theorem Same.seq {K : PySem.W.Frag} {H H' : Hp} {a : Addr} {xs : List V} (e : Same H H') (h : SqL K H a xs) : SqL K H' a xs := e.wk.seq h
theorem Same.tup {K : PySem.W.Frag} {H H' : Hp} {a : Addr} {xs : List V} (e : Same H H') (h : SqT K H a xs) : SqT K H' a xs := e.wk.tup h
theorem nt_or (o : HO) : NT o ∨ ∃ ps, o = .tbl ps := by
  cases o <;> first | exact .inr ⟨_, rfl⟩ | exact .inl nofun
theorem Same.dom {H H' : Hp} (e : Same H H') {a : Addr} {o : HO} (h : H a = some o) : ∃ o', H' a = some o' := by
  rcases nt_or o with n | ⟨ps, rfl⟩
  · exact ⟨o, e.wk.get a o h n⟩
  · obtain ⟨m, z⟩ := e.tbl a ps h
    exact ⟨_, z⟩
theorem Same.free {H H' : Hp} (e : Same H H') {l : Addr} (h : H' l = none) : H l = none := by
  cases q : H l with
  | none => rfl
  | some o =>
    obtain ⟨o', z⟩ := e.dom q
    rw [h] at z; cases z
/-- L2's own -/
theorem Same.of {H H' : Hp} (e : L2.Same H H') : Same H H' := ⟨.mk fun b o h _ => e b o h, fun b ps h => ⟨#[], by rw [Array.append_empty]; exact e b _ h⟩, fun h => LamX.Tabs.ext h e⟩
theorem same_upd {H : Hp} {p : Addr} {o : HO} (h : H p = none) : Same H (upd H p o) := .of fun b x e => by
  rw [upd_ne (ne_of_none e h)]; exact e
end
/-! ### heaps with a part hidden -/
def hid (O : List Addr) (H : Hp) : Hp := fun a => if a ∈ O then none else H a
theorem hid_in {O : List Addr} {H : Hp} {a : Addr} (h : a ∈ O) : hid O H a = none := by unfold hid; rw [if_pos h]
theorem hid_out {O : List Addr} {H : Hp} {a : Addr} (h : a ∉ O) : hid O H a = H a := by unfold hid; rw [if_neg h]
theorem hid_some {O : List Addr} {H : Hp} {a : Addr} {o : HO} (h : hid O H a = some o) : a ∉ O ∧ H a = some o := by
  by_cases q : a ∈ O
  · rw [hid_in q] at h; cases h
  · rw [hid_out q] at h; exact ⟨q, h⟩
theorem hid_smW {O : List Addr} {H H' : Hp} (e : Wk H H') : Wk (hid O H) (hid O H') := .mk fun a o h n => by
  obtain ⟨h1, h2⟩ := hid_some h
  rw [hid_out h1]; exact e.get a o h2 n
theorem hid_sm [Tbs] {O : List Addr} {H H' : Hp} (e : Same H H') : Wk (hid O H) (hid O H') := hid_smW e.wk
theorem hid_le {O : List Addr} {H : Hp} : Wk (hid O H) H := .mk fun a o h _ => (hid_some h).2
theorem hid_sub {O O' : List Addr} {H : Hp} (s : ∀ a ∈ O', a ∈ O) : Wk (hid O H) (hid O' H) := .mk fun a o h _ => by
  obtain ⟨h1, h2⟩ := hid_some h
  rw [hid_out fun q => h1 (s a q)]; exact h2
theorem hid_nil {H : Hp} : hid [] H = H := by funext a; exact hid_out (by simp)
section
variable [Tbs]
/-- what is outside of F stands -/
structure Stab (F : List Addr) (H H' : Hp) : Prop where
  get : ∀ a o, H a = some o → a ∉ F → NT o → H' a = some o
  tbl : ∀ b ps, H b = some (.tbl ps) → ∃ more, H' b = some (.tbl (ps ++ more))
  tab : LamX.Tabs Tbs.T H → LamX.Tabs Tbs.T H'
def Step (F : List Addr) (H : Hp) (F' : List Addr) (H' : Hp) : Prop := Stab F H H' ∧ ∀ p ∈ F', p ∈ F ∨ H p = none
theorem Stab.of_same {F : List Addr} {H H' : Hp} (e : Same H H') : Stab F H H' := ⟨fun a o h _ n => e.wk.get a o h n, e.tbl, e.tab⟩
theorem Stab.sub {F F' : List Addr} {H H' : Hp} (s : Stab F H H') (h : ∀ q ∈ F, q ∈ F') : Stab F' H H' := ⟨fun a o e n => s.get a o e fun z => n (h a z), s.tbl, s.tab⟩
/-- a thing that is no table and no code object is exchanged -/
theorem stab_of {H : Hp} {q : Addr} {u u' : HO} (e : H q = some u) (nt : NT u) (nc : ∀ c x, u ≠ LamX.CodeO c x) : Stab [q] H (upd H q u') := by
  refine ⟨fun a o ha hn _ => by rw [upd_ne (by simpa using hn)]; exact ha, fun b ps h => ⟨#[], ?_⟩, fun T p hp => ?_⟩
  · rw [upd_ne (fun z => by rw [z, e] at h; exact nt ps (Option.some.inj h)), Array.append_empty]; exact h
  · obtain ⟨ps, h1, h2, h3⟩ := T p hp
    refine ⟨ps, ?_, h2, fun pos cv hc => ?_⟩
    · rw [upd_ne (fun z => by rw [z, e] at h1; exact nt ps (Option.some.inj h1))]; exact h1
    · obtain ⟨c, g1, g2⟩ := h3 pos cv hc
      exact ⟨c, g1, by rw [upd_ne (fun z => by rw [z, e] at g2; exact nc _ _ (Option.some.inj g2))]; exact g2⟩
theorem stab_upd {H : Hp} {q : Addr} {xs : List V} {u' : HO} (e : H q = some (.lst xs)) : Stab [q] H (upd H q u') := stab_of e nt_lst fun c x z => by unfold LamX.CodeO at z; cases z
theorem Same.stab {H H1 : Hp} (e : Same H H1) {q : Addr} {xs : List V} {u' : HO} (h : H1 q = some (.lst xs)) : Stab [q] H (upd H1 q u') := by
  have s := stab_upd (u' := u') h
  refine ⟨fun a o ha hn n => s.get a o (e.wk.get a o ha n) hn n, fun b ps hb => ?_, fun T => s.tab (e.tab T)⟩
  obtain ⟨m, z⟩ := e.tbl b ps hb
  obtain ⟨m2, z2⟩ := s.tbl b _ z
  exact ⟨m ++ m2, by rw [← Array.append_assoc]; exact z2⟩
theorem Same.upd_new {H H1 : Hp} (e : Same H H1) {q : Addr} {xs : List V} {u' : HO} (h0 : H q = none) (h : H1 q = some (.lst xs)) : Same H (upd H1 q u') := by
  have s := stab_upd (u' := u') h
  refine ⟨.mk fun a o ha n => ?_, fun b ps hb => ?_, fun T => s.tab (e.tab T)⟩
  · rw [upd_ne (ne_of_none ha h0)]; exact e.wk.get a o ha n
  · obtain ⟨m, z⟩ := e.tbl b ps hb
    exact ⟨m, by rw [upd_ne (ne_of_none hb h0)]; exact z⟩
theorem Stab.dom {F : List Addr} {H H' : Hp} (s : Stab F H H') {a : Addr} {o : HO} (h : H a = some o) (n : a ∉ F) : ∃ o', H' a = some o' := by
  rcases nt_or o with q | ⟨ps, rfl⟩
  · exact ⟨o, s.get a o h n q⟩
  · obtain ⟨m, z⟩ := s.tbl a ps h
    exact ⟨_, z⟩
theorem Step.refl {F : List Addr} {H : Hp} : Step F H F H := ⟨.of_same (Same.refl H), fun _ h => .inl h⟩
theorem Step.trans {F F1 F2 : List Addr} {H H1 H2 : Hp} (a : Step F H F1 H1) (b : Step F1 H1 F2 H2) : Step F H F2 H2 := by
  refine ⟨⟨fun p o h n nt => b.1.get p o (a.1.get p o h n nt) (fun q => ?_) nt, fun p ps h => ?_, fun h => b.1.tab (a.1.tab h)⟩, fun p q => ?_⟩
  · rcases a.2 p q with z | z
    · exact n z
    · rw [h] at z; cases z
  · obtain ⟨m1, h1⟩ := a.1.tbl p ps h
    obtain ⟨m2, h2⟩ := b.1.tbl p _ h1
    exact ⟨m1 ++ m2, by rw [← Array.append_assoc]; exact h2⟩
  · rcases b.2 p q with z | z
    · exact a.2 p z
    · by_cases n : p ∈ F
      · exact .inl n
      · refine .inr ?_
        cases e : H p with
        | none => rfl
        | some o =>
          obtain ⟨o', y⟩ := a.1.dom e n
          rw [y] at z; cases z
theorem Step.same {F : List Addr} {H H' : Hp} (e : Same H H') : Step F H F H' := ⟨.of_same e, fun _ h => .inl h⟩
theorem Step.of_nil {F' : List Addr} {H H' : Hp} (s : Step [] H F' H') : Same H H' := ⟨.mk fun a o h n => s.1.get a o h (by simp) n, s.1.tbl, s.1.tab⟩
theorem Step.free {F F' : List Addr} {H H' : Hp} (s : Step F H F' H') {p : Addr} (h : H' p = none) : p ∈ F ∨ H p = none := by
  by_cases n : p ∈ F
  · exact .inl n
  · refine .inr ?_
    cases e : H p with
    | none => rfl
    | some o =>
      obtain ⟨o', y⟩ := s.1.dom e n
      rw [y] at h; cases h
theorem Step.hid {F F' O : List Addr} {H H' : Hp} (s : Step F H F' H') : Wk (hid (O ++ F) H) (hid (O ++ F') H') := .mk fun a o h n => by
  obtain ⟨h1, h2⟩ := hid_some h
  rw [hid_out]
  · exact s.1.get a o h2 (fun q => h1 (List.mem_append_right _ q)) n
  · intro q
    rcases List.mem_append.mp q with q | q
    · exact h1 (List.mem_append_left _ q)
    · rcases s.2 a q with z | z
      · exact h1 (List.mem_append_right _ z)
      · rw [h2] at z; cases z
theorem Step.hid0 {F F' : List Addr} {H H' : Hp} (s : Step F H F' H') : Wk (Fx.hid F H) (Fx.hid F' H') := by
  have := s.hid (O := [])
  simpa using this
end

/-! ### what a plain value stands for -/
structure Rp (α : Type) where
  rp : PySem.W.Frag → Hp → α → V → Prop
  mono : ∀ {K : PySem.W.Frag} {H H' : Hp} {a : α} {v : V}, Wk H H' → rp K H a v → rp K H' a v
theorem Paired.imp {α β : Type} {F G : α → β → Prop} : ∀ {l₁ : List α} {l₂ : List β}, Paired F l₁ l₂ → (∀ a b, F a b → G a b) → Paired G l₁ l₂
  | _, _, .nil, _ => .nil
  | _, _, .cons r t, f => .cons (f _ _ r) (Paired.imp t f)
theorem Paired.get {α β : Type} {F : α → β → Prop} : ∀ {l₁ : List α} {l₂ : List β} {i : Nat} {a : α}, Paired F l₁ l₂ → l₁[i]? = some a → ∃ b, l₂[i]? = some b ∧ F a b
  | _, _, _, _, .nil, e => by simp at e
  | _, _, 0, _, .cons r _, e => by simp at e; subst e; exact ⟨_, rfl, r⟩
  | _, _, i + 1, x, .cons _ t, e => by
    obtain ⟨u, h1, h2⟩ := Paired.get (i := i) (a := x) t (by simpa using e)
    exact ⟨u, by simpa using h1, h2⟩
theorem Paired.getR {α β : Type} {F : α → β → Prop} : ∀ {l₁ : List α} {l₂ : List β} {i : Nat} {b : β}, Paired F l₁ l₂ → l₂[i]? = some b → ∃ a, l₁[i]? = some a ∧ F a b
  | _, _, _, _, .nil, e => by simp at e
  | _, _, 0, _, .cons r _, e => by simp at e; subst e; exact ⟨_, rfl, r⟩
  | _, _, i + 1, x, .cons _ t, e => by
    obtain ⟨u, h1, h2⟩ := Paired.getR (i := i) (b := x) t (by simpa using e)
    exact ⟨u, by simpa using h1, h2⟩
theorem Paired.len {α β : Type} {F : α → β → Prop} : ∀ {l₁ : List α} {l₂ : List β}, Paired F l₁ l₂ → l₁.length = l₂.length
  | _, _, .nil => rfl
  | _, _, .cons _ t => by rw [List.length_cons, List.length_cons, Paired.len t]
theorem Paired.app {α β : Type} {F : α → β → Prop} : ∀ {xs ys : List α} {us ws : List β}, Paired F xs us → Paired F ys ws → Paired F (xs ++ ys) (us ++ ws)
  | _, _, _, _, .nil, s => s
  | _, _, _, _, .cons r t, s => .cons r (Paired.app t s)
theorem Paired.tk {α β : Type} {F : α → β → Prop} : ∀ {xs : List α} {us : List β} (n : Nat), Paired F xs us → Paired F (xs.take n) (us.take n)
  | _, _, 0, _ => .nil
  | _, _, _ + 1, .nil => .nil
  | _, _, n + 1, .cons r t => .cons r (Paired.tk n t)
theorem Paired.dp {α β : Type} {F : α → β → Prop} : ∀ {xs : List α} {us : List β} (n : Nat), Paired F xs us → Paired F (xs.drop n) (us.drop n)
  | _, _, 0, r => r
  | _, _, _ + 1, .nil => .nil
  | _, _, n + 1, .cons _ t => Paired.dp n t
theorem Paired.st {α β : Type} {F : α → β → Prop} {x : α} {u : β} (r : F x u) : ∀ {xs : List α} {us : List β} (i : Nat), Paired F xs us → Paired F (xs.set i x) (us.set i u)
  | _, _, _, .nil => .nil
  | _, _, 0, .cons _ t => .cons r t
  | _, _, i + 1, .cons q t => .cons q (Paired.st r i t)
theorem Paired.rev {α β : Type} {F : α → β → Prop} : ∀ {xs : List α} {us : List β}, Paired F xs us → Paired F xs.reverse us.reverse
  | _, _, .nil => .nil
  | _, _, .cons r t => by
    rw [List.reverse_cons, List.reverse_cons]
    exact Paired.app (Paired.rev t) (.cons r .nil)

def rInt : Rp Int := ⟨fun _ _ a v => v = .int a, fun _ h => h⟩
def rBool : Rp Bool := ⟨fun _ _ a v => v = .bl a, fun _ h => h⟩
def rStr : Rp Str := ⟨fun _ _ a v => v = .str a, fun _ h => h⟩
def rNone : Rp Unit := ⟨fun _ _ _ v => v = .non, fun _ h => h⟩
def rLit (k : Int) : Rp Unit := ⟨fun _ _ _ v => v = .int k, fun _ h => h⟩
def rList {α : Type} (r : Rp α) : Rp (List α) :=
  ⟨fun K H xs v => ∃ a vs, v = .ref a ∧ H a = some (.lst vs) ∧ xs.length ≤ sizeLine ∧ Paired (r.rp K H) xs vs, fun e ⟨a, vs, h1, h2, hl, h3⟩ => ⟨a, vs, h1, e.get _ _ h2, hl, Paired.imp h3 fun _ _ q => r.mono e q⟩⟩
/-- a list that is only read: the script -/
def rSeq {α : Type} (r : Rp α) : Rp (List α) :=
  ⟨fun K H xs v => ∃ a vs, v = .ref a ∧ SqL K H a vs ∧ xs.length ≤ sizeLine ∧ Paired (r.rp K H) xs vs, fun e ⟨a, vs, h1, h2, hl, h3⟩ => ⟨a, vs, h1, e.seq h2, hl, Paired.imp h3 fun _ _ q => r.mono e q⟩⟩
def rOpt {α : Type} (r : Rp α) : Rp (Option α) :=
  ⟨fun K H x v => match x with | none => v = .non | some a => v ≠ .non ∧ r.rp K H a v, fun {K H H' a v} e h => by
    cases a with
    | none => exact h
    | some a => exact ⟨h.1, r.mono e h.2⟩⟩
/-- a row of values: Hs for the strong ones, Hb for the borrowed -/
structure PD (π : Type) where
  rel : PySem.W.Frag → Hp → Hp → π → List V → Prop
  mono : ∀ {K : PySem.W.Frag} {Hs Hs' Hb Hb' : Hp} {a : π} {vs : List V}, Wk Hs Hs' → Wk Hb Hb' → rel K Hs Hb a vs → rel K Hs' Hb' a vs
def pNil : PD Unit := ⟨fun _ _ _ _ vs => vs = [], fun _ _ h => h⟩
def pC {α π : Type} (b : Bool) (r : Rp α) (P : PD π) : PD (α × π) :=
  ⟨fun K Hs Hb a vs => ∃ v us, vs = v :: us ∧ r.rp K (if b then Hs else Hb) a.1 v ∧ P.rel K Hs Hb a.2 us, fun {K Hs Hs' Hb Hb' a vs} e1 e2 ⟨v, us, h1, h2, h3⟩ => ⟨v, us, h1, by
    cases b with
    | true => exact r.mono e1 h2
    | false => exact r.mono e2 h2, P.mono e1 e2 h3⟩⟩
/-- a tuple of such a row; a list of unlike things -/
def rTup {π : Type} (P : PD π) : Rp π :=
  ⟨fun K H x v => ∃ a vs, v = .ref a ∧ H a = some (.tup vs) ∧ P.rel K H H x vs, fun e ⟨a, vs, h1, h2, h3⟩ => ⟨a, vs, h1, e.get _ _ h2, P.mono e e h3⟩⟩
def rRow {π : Type} (P : PD π) : Rp π :=
  ⟨fun K H x v => ∃ a vs, v = .ref a ∧ H a = some (.lst vs) ∧ P.rel K H H x vs, fun e ⟨a, vs, h1, h2, h3⟩ => ⟨a, vs, h1, e.get _ _ h2, P.mono e e h3⟩⟩
/-- bare values: they stand for the same in any heap -/
def Rp.Sc {α : Type} (r : Rp α) : Prop := ∀ (K : PySem.W.Frag) (H H' : Hp) (a : α) (v : V), r.rp K H a v → r.rp K H' a v
theorem sc_int : rInt.Sc := fun _ _ _ _ _ h => h
theorem sc_bool : rBool.Sc := fun _ _ _ _ _ h => h
theorem sc_str : rStr.Sc := fun _ _ _ _ _ h => h
theorem sc_none : rNone.Sc := fun _ _ _ _ _ h => h
theorem sc_opt {α : Type} {r : Rp α} (h : r.Sc) : (rOpt r).Sc := fun K H H' a v q => by
  cases a with
  | none => exact q
  | some a => exact ⟨q.1, h K H H' a v q.2⟩

/-! ### modes: is the callers' hidden part hidden, is our own -/
abbrev Md := Bool × Bool
abbrev mS : Md := (true, true)
abbrev mB : Md := (false, true)
abbrev mF : Md := (true, false)
abbrev mW : Md := (false, false)
def hidM (m : Md) (O F : List Addr) (H : Hp) : Hp := hid ((if m.1 then O else []) ++ (if m.2 then F else [])) H
theorem hidM_smW {m : Md} {O F : List Addr} {H H' : Hp} (e : Wk H H') : Wk (hidM m O F H) (hidM m O F H') := hid_smW e
theorem hidM_sm [Tbs] {m : Md} {O F : List Addr} {H H' : Hp} (e : Same H H') : Wk (hidM m O F H) (hidM m O F H') := hid_smW e.wk
def Md.le (m m' : Md) : Bool := (m.1 || !m'.1) && (m.2 || !m'.2)
theorem hidM_le {m m' : Md} {O F : List Addr} {H : Hp} (h : Md.le m m' = true) : Wk (hidM m O F H) (hidM m' O F H) := by
  obtain ⟨a, b⟩ := m
  obtain ⟨c, d⟩ := m'
  refine hid_sub fun p q => ?_
  cases a <;> cases b <;> cases c <;> cases d <;> simp_all [Md.le]
theorem hidM_low {m : Md} {O F : List Addr} {H : Hp} : Wk (hidM m O F H) H := hid_le
theorem hidM_top {m : Md} {O F : List Addr} {H : Hp} : Wk (hid (O ++ F) H) (hidM m O F H) := by
  have : hid (O ++ F) H = hidM mS O F H := rfl
  rw [this]
  exact hidM_le (by obtain ⟨a, b⟩ := m; cases a <;> cases b <;> rfl)

/-! ### owned things: a mutable object that nobody else holds -/
structure Ro (α : Type) where
  rp : PySem.W.Frag → Hp → Hp → α → V → List Addr → Prop
  sh : Rp α
  frame : ∀ {K : PySem.W.Frag} {H H' Hs Hs' : Hp} {a : α} {v : V} {F : List Addr}, rp K H Hs a v F → Wk Hs Hs' → (∀ p ∈ F, ∀ o, H p = some o → NT o → H' p = some o) → rp K H' Hs' a v F
  toSh : ∀ {K : PySem.W.Frag} {H Hs : Hp} {a : α} {v : V} {F : List Addr}, rp K H Hs a v F → Wk Hs H → sh.rp K H a v
/-- a list of shared things -/
def oList {α : Type} (r : Rp α) : Ro (List α) where
  rp := fun K H Hs xs v F => ∃ p vs, v = .ref p ∧ F = [p] ∧ H p = some (.lst vs) ∧ xs.length ≤ sizeLine ∧ Paired (r.rp K Hs) xs vs
  sh := rList r
  frame := fun ⟨p, vs, h1, h2, h3, hl, h4⟩ e k => ⟨p, vs, h1, h2, k p (by rw [h2]; simp) _ h3 nt_lst, hl, Paired.imp h4 fun _ _ q => r.mono e q⟩
  toSh := fun ⟨p, vs, h1, h2, h3, hl, h4⟩ e => ⟨p, vs, h1, h3, hl, Paired.imp h4 fun _ _ q => r.mono e q⟩

/-! ### slots, environments -/
structure Slot (α : Type) where
  rel : PySem.W.Frag → Hp → List Addr → List Addr → Option α → Option V → List Addr → Prop
  frame : ∀ {K : PySem.W.Frag} {H H' : Hp} {O O' Ft Ft' F : List Addr} {x : Option α} {w : Option V}, rel K H O Ft x w F → Wk (hid (O ++ Ft) H) (hid (O' ++ Ft') H') → Wk (hid Ft H) (hid Ft' H') →
    (∀ p ∈ F, ∀ o, H p = some o → NT o → H' p = some o) → rel K H' O' Ft' x w F
  non : ∀ {K : PySem.W.Frag} {H : Hp} {O Ft : List Addr} {w : Option V}, rel K H O Ft none w []
/-- shared: strong (b = true) or borrowed -/
def sS {α : Type} (b : Bool) (r : Rp α) : Slot α where
  rel := fun K H O Ft x w F => F = [] ∧ ∀ a, x = some a → ∃ v, w = some v ∧ r.rp K (hidM (b, true) O Ft H) a v
  frame := fun {K H H' O O' Ft Ft' F x w} ⟨h1, h2⟩ e1 e2 k => ⟨h1, fun a ha => by
    obtain ⟨v, q1, q2⟩ := h2 a ha
    refine ⟨v, q1, r.mono ?_ q2⟩
    cases b with
    | true => exact e1
    | false => exact e2⟩
  non := ⟨rfl, fun _ h => by cases h⟩
def sO {α : Type} (o : Ro α) : Slot α where
  rel := fun K H O Ft x w F => (x = none → F = []) ∧ ∀ a, x = some a → ∃ v, w = some v ∧ o.rp K H (hid (O ++ Ft) H) a v F
  frame := fun ⟨h1, h2⟩ e1 e2 k => ⟨h1, fun a ha => by
    obtain ⟨v, q1, q2⟩ := h2 a ha
    exact ⟨v, q1, o.frame q2 e1 k⟩⟩
  non := ⟨fun _ => rfl, fun _ h => by cases h⟩
structure EnvD (ε : Type) where
  rel : PySem.W.Frag → Hp → List Addr → List Addr → ε → St → List Addr → Prop
  frame : ∀ {K : PySem.W.Frag} {H H' : Hp} {O O' Ft Ft' F : List Addr} {E : ε} {σ : St}, rel K H O Ft E σ F → Wk (hid (O ++ Ft) H) (hid (O' ++ Ft') H') → Wk (hid Ft H) (hid Ft' H') →
    (∀ p ∈ F, ∀ o, H p = some o → NT o → H' p = some o) → rel K H' O' Ft' E σ F
def eNil : EnvD Unit := ⟨fun _ _ _ _ _ σ F => σ = [] ∧ F = [], fun h _ _ _ => h⟩
def eC {α ε : Type} (s : Slot α) (D : EnvD ε) : EnvD (Option α × ε) where
  rel := fun K H O Ft E σ F => ∃ w τ F1 F2, σ = w :: τ ∧ F = F1 ++ F2 ∧ s.rel K H O Ft E.1 w F1 ∧ D.rel K H O Ft E.2 τ F2
  frame := fun ⟨w, τ, F1, F2, h1, h2, h3, h4⟩ e1 e2 k => ⟨w, τ, F1, F2, h1, h2, s.frame h3 e1 e2 fun p q => k p (by rw [h2]; exact List.mem_append_left _ q), D.frame h4 e1 e2 fun p q => k p (by rw [h2]; exact List.mem_append_right _ q)⟩
section
variable [Tbs]
structure RelF {ε : Type} (D : EnvD ε) (K : PySem.W.Frag) (H : Hp) (O F : List Addr) (E : ε) (σ : St) : Prop where
  rel : D.rel K H O F E σ F
  nd : F.Nodup
  dj : ∀ p ∈ F, p ∉ O
  dom : ∀ p ∈ O ++ F, ∃ o, H p = some o
  tab : LamX.Tabs Tbs.T H
theorem RelF.same {ε : Type} {D : EnvD ε} {K : PySem.W.Frag} {H H' : Hp} {O F : List Addr} {E : ε} {σ : St} (h : RelF D K H O F E σ) (e : Same H H') : RelF D K H' O F E σ :=
  ⟨D.frame h.rel (hid_sm e) (hid_sm e) fun p _ o q n => e.wk.get p o q n, h.nd, h.dj, fun p q => by
    obtain ⟨o, z⟩ := h.dom p q
    exact e.dom z, e.tab h.tab⟩
end
/-- the i-th slot, read and exchanged (perhaps for one of another kind) -/
structure Ln {ε ε' α β : Type} (D : EnvD ε) (D' : EnvD ε') (i : Nat) (s : Slot α) (s' : Slot β) (g : ε → Option α) (p : ε → Option β → ε') : Prop where
  get : ∀ {K : PySem.W.Frag} {H : Hp} {O Ft F : List Addr} {E : ε} {σ : St}, D.rel K H O Ft E σ F → ∃ Fa F1 Fb w, F = Fa ++ F1 ++ Fb ∧ σ[i]? = some w ∧ s.rel K H O Ft (g E) w F1 ∧
    ∀ (H' : Hp) (Ft' : List Addr), Wk (hid (O ++ Ft) H) (hid (O ++ Ft') H') → Wk (hid Ft H) (hid Ft' H') → (∀ q ∈ Fa ++ Fb, ∀ o, H q = some o → NT o → H' q = some o) →
      ∀ x' w' F1', s'.rel K H' O Ft' x' w' F1' → D'.rel K H' O Ft' (p E x') (σ.set i w') (Fa ++ F1' ++ Fb)
theorem lz {α β ε : Type} {s : Slot α} {s' : Slot β} {D : EnvD ε} : Ln (eC s D) (eC s' D) 0 s s' (fun E => E.1) (fun E x => (x, E.2)) := by
  refine ⟨fun {K H O Ft F E σ} ⟨w, τ, F1, F2, h1, h2, h3, h4⟩ => ⟨[], F1, F2, w, by simpa using h2, by rw [h1]; rfl, h3, fun H' Ft' e1 e2 k x' w' F1' h => ⟨w', τ, F1', F2, by rw [h1]; rfl, by simp, h, D.frame h4 e1 e2 fun q m => k q (by simpa using m)⟩⟩⟩
theorem ls {α β γ ε ε' : Type} {s : Slot α} {s' : Slot β} {u : Slot γ} {D : EnvD ε} {D' : EnvD ε'} {i : Nat} {g : ε → Option α} {p : ε → Option β → ε'} (L : Ln D D' i s s' g p) : Ln (eC u D) (eC u D') (i + 1) s s' (fun E => g E.2) (fun E x => (E.1, p E.2 x)) := by
  refine ⟨fun {K H O Ft F E σ} ⟨w, τ, F1, F2, h1, h2, h3, h4⟩ => ?_⟩
  obtain ⟨Fa, G, Fb, w1, q1, q2, q3, q4⟩ := L.get h4
  refine ⟨F1 ++ Fa, G, Fb, w1, by rw [h2, q1]; simp, by rw [h1]; simpa using q2, q3, fun H' Ft' e1 e2 k x' w' F1' h => ?_⟩
  refine ⟨w, τ.set i w', F1, Fa ++ F1' ++ Fb, by rw [h1]; rfl, by simp, u.frame h3 e1 e2 fun q m => k q (by simp [m]), q4 H' Ft' e1 e2 (fun q m => k q ?_) x' w' F1' h⟩
  rcases List.mem_append.mp m with m | m <;> simp [m]
end Fx

/-! Fx2: expressions. -/
namespace Fx
open PySem PySem.Spec L2
variable [Tbs]

def ofO {α : Type} : Option α → Rs α
  | some a => .ok a
  | none => .bad
@[simp] theorem ofO_some {α : Type} (a : α) : ofO (some a) = .ok a := rfl
@[simp] theorem ofO_none {α : Type} : ofO (none : Option α) = .bad := rfl
def SemE {ε α : Type} (D : EnvD ε) (K : PySem.W.Frag) (R : Str → Hp → Prop) (m : Md) (t : TE) (r : Rp α) (f : ε → Rs α) : Prop :=
  ∀ (H : Hp) (O F : List Addr) (E : ε) (σ : L2.St), RelF D K H O F E σ → ∀ Q : VK, Good (f E) (fun a => ∀ v H', Same H H' → r.rp K (hidM m O F H') a v → Q v H') (fun c => ∀ H', Same H H' → R c H') → t σ H Q
def SemT {ε : Type} (D : EnvD ε) (K : PySem.W.Frag) (R : Str → Hp → Prop) (t : TT) (f : ε → Rs Bool) : Prop :=
  ∀ (H : Hp) (O F : List Addr) (E : ε) (σ : L2.St), RelF D K H O F E σ → ∀ Q : Bool → Hp → Prop, Good (f E) (fun b => ∀ H', Same H H' → Q b H') (fun c => ∀ H', Same H H' → R c H') → t σ H Q
structure FE {ε α : Type} (D : EnvD ε) (X : Cx) (K : PySem.W.Frag) (R : Str → Hp → Prop) (m : Md) (e : Expr) (t : TE) (r : Rp α) (f : ε → Rs α) : Prop where
  hK : X.K = K
  pe : PE X e t
  sem : SemE D K R m t r f
structure FT {ε : Type} (D : EnvD ε) (X : Cx) (K : PySem.W.Frag) (R : Str → Hp → Prop) (e : Expr) (t : TT) (f : ε → Rs Bool) : Prop where
  hK : X.K = K
  pt : PT X e t
  sem : SemT D K R t f
structure FW {ε : Type} (D : EnvD ε) (X : Cx) (K : PySem.W.Frag) (R : Str → Hp → Prop) (e : Expr) (t : TT) (f : ε → Rs Bool) : Prop where
  hK : X.K = K
  pw : PW X e t
  sem : SemT D K R t f
section
variable {ε α β γ : Type} {D : EnvD ε} {X : Cx} {K : PySem.W.Frag} {R : Str → Hp → Prop} {m m' ma mb : Md} {e a b c : Expr} {t ta tb tc : TE} {r : Rp α} {ra : Rp α} {rb : Rp β} {rc : Rp γ} {f : ε → Rs α} {pos : Pos}

/-! ### denotations -/
def dV (g : ε → Option α) : ε → Rs α := fun E => ofO (g E)
def dC (a : α) : ε → Rs α := fun _ => .ok a
def d1 (h : α → Option β) (f : ε → Rs α) : ε → Rs β := fun E => (f E).bind fun a => ofO (h a)
def d2 (h : α → β → Option γ) (f : ε → Rs α) (g : ε → Rs β) : ε → Rs γ := fun E => (f E).bind fun a => (g E).bind fun b => ofO (h a b)
def dAnd (f g : ε → Rs Bool) : ε → Rs Bool := fun E => (f E).bind fun c => if c = true then g E else .ok false
def dOr (f g : ε → Rs Bool) : ε → Rs Bool := fun E => (f E).bind fun c => if c = true then .ok true else g E
def dNot (f : ε → Rs Bool) : ε → Rs Bool := fun E => (f E).bind fun c => .ok (!c)
def dIf (c : ε → Rs Bool) (f g : ε → Rs α) : ε → Rs α := fun E => (c E).bind fun b => if b = true then f E else g E

/-! ### modes -/
theorem SemE.wk {K : PySem.W.Frag} (h : SemE D K R m t r f) (l : Md.le m m' = true) : SemE D K R m' t r f := fun H O F E σ I Q q =>
  h H O F E σ I Q (q.mono (fun a _ k v H' e z => k v H' e (r.mono (hidM_le l) z)) fun _ k => k)
theorem fe_wk (h : FE D X K R m e t r f) (l : Md.le m m' = true := by decide) : FE D X K R m' e t r f := by
  cases h.hK
  exact ⟨rfl, h.pe, h.sem.wk l⟩

theorem fe_sc (h : FE D X K R m e t r f) (s : r.Sc) : FE D X K R m' e t r f := by
  cases h.hK
  exact ⟨rfl, h.pe, fun H O F E σ I Q q =>
  h.sem H O F E σ I Q (q.mono (fun a _ k v H' e z => k v H' e (s _ _ _ _ _ z)) fun _ k => k)⟩

/-! ### names, constants -/
theorem Ln.at {ε' β : Type} {D' : EnvD ε'} {i : Nat} {s : Slot α} {s' : Slot β} {g : ε → Option α} {p : ε → Option β → ε'} (L : Ln D D' i s s' g p) {K : PySem.W.Frag} {H : Hp} {O F : List Addr} {E : ε} {σ : L2.St} (I : RelF D K H O F E σ) :
    ∃ F1 w, (∀ q ∈ F1, q ∈ F) ∧ σ[i]? = some w ∧ s.rel K H O F (g E) w F1 := by
  obtain ⟨Fa, F1, Fb, w, h1, h2, h3, _⟩ := L.get I.rel
  exact ⟨F1, w, fun q hq => by rw [h1]; simp [hq], h2, h3⟩
theorem fe_var {bb : Bool} {i : Nat} {g : ε → Option α} {p : ε → Option α → ε} {x : Str} (L : Ln D D i (sS bb r) (sS bb r) g p) (hN : X.N[i]? = some x := by rfl) (hv : Vis X.env.scope x := by first | exact Or.inl rfl | exact Or.inr (Or.inl rfl) | exact Or.inr (Or.inr rfl))
    (hd : (x == ("__debug__" : Str)) = false := by decide) (hcd : (x == ("__classdict__" : Str)) = false := by decide) (hK : X.K = K := by rfl) : FE D X K R (bb, true) (.Name x pos) (tVar i) r (dV g) := by
  cases hK
  refine ⟨rfl, pe_var hN hv hd hcd, fun H O F E σ I Q q => ?_⟩
  obtain ⟨F1, w, _, h2, h3⟩ := L.at I
  unfold dV at q
  cases e : g E with
  | none => rw [e] at q; exact q.elim
  | some a =>
    rw [e] at q h3
    obtain ⟨v, e1, e2⟩ := h3.2 a rfl
    subst e1
    exact ⟨v, h2, q v H (Same.refl H) e2⟩

theorem fe_own {o : Ro α} {i : Nat} {g : ε → Option α} {p : ε → Option α → ε} {x : Str} (L : Ln D D i (sO o) (sO o) g p) (hN : X.N[i]? = some x := by rfl) (hv : Vis X.env.scope x := by first | exact Or.inl rfl | exact Or.inr (Or.inl rfl) | exact Or.inr (Or.inr rfl))
    (hd : (x == ("__debug__" : Str)) = false := by decide) (hcd : (x == ("__classdict__" : Str)) = false := by decide) (hK : X.K = K := by rfl) : FE D X K R mF (.Name x pos) (tVar i) o.sh (dV g) := by
  cases hK
  refine ⟨rfl, pe_var hN hv hd hcd, fun H O F E σ I Q q => ?_⟩
  obtain ⟨F1, w, h1, h2, h3⟩ := L.at I
  unfold dV at q
  cases e : g E with
  | none => rw [e] at q; exact q.elim
  | some a =>
    rw [e] at q h3
    obtain ⟨v, e1, e2⟩ := h3.2 a rfl
    subst e1
    refine ⟨v, h2, q v H (Same.refl H) ?_⟩
    have e3 := o.frame (H' := hidM mF O F H) (Hs' := hid (O ++ F) H) e2 (Wk.refl _) fun p hp u hu _ => by
      have : p ∉ O := I.dj p (h1 p hp)
      unfold hidM
      rw [hid_out (by simpa using this)]
      exact hu
    exact o.toSh e3 hidM_top

theorem fe_int {i : Int} {j} (hK : X.K = K := by rfl) : FE D X K R m (.Constant (.int i) j pos) (tC (.int i)) rInt (dC i) := by
  cases hK
  exact ⟨rfl, pe_int, fun H _ _ _ _ _ _ q => q _ H (Same.refl H) rfl⟩

theorem fe_lit {i : Int} {j} (hK : X.K = K := by rfl) : FE D X K R m (.Constant (.int i) j pos) (tC (.int i)) (rLit i) (dC ()) := by
  cases hK
  exact ⟨rfl, pe_int, fun H _ _ _ _ _ _ q => q _ H (Same.refl H) rfl⟩

theorem fe_bool {i : Bool} {j} (hK : X.K = K := by rfl) : FE D X K R m (.Constant (.bool i) j pos) (tC (.bl i)) rBool (dC i) := by
  cases hK
  exact ⟨rfl, pe_bl, fun H _ _ _ _ _ _ q => q _ H (Same.refl H) rfl⟩

theorem fe_none {j} (hK : X.K = K := by rfl) : FE D X K R m (.Constant .none j pos) (tC .non) rNone (dC ()) := by
  cases hK
  exact ⟨rfl, pe_non, fun H _ _ _ _ _ _ q => q _ H (Same.refl H) rfl⟩

theorem fe_noneO {j} (hK : X.K = K := by rfl) : FE D X K R m (.Constant .none j pos) (tC .non) (rOpt r) (dC (none : Option α)) := by
  cases hK
  exact ⟨rfl, pe_non, fun H _ _ _ _ _ _ q => q _ H (Same.refl H) rfl⟩

theorem fe_str {x : Str} {j} (hK : X.K = K := by rfl) : FE D X K R m (.Constant (.str x) j pos) (tC (.str x)) rStr (dC x) := by
  cases hK
  exact ⟨rfl, pe_str, fun H _ _ _ _ _ _ q => q _ H (Same.refl H) rfl⟩

/-! ### two operands -/
def Dom (O F : List Addr) (H : Hp) : Prop := ∀ p ∈ O ++ F, ∃ o, H p = some o
theorem Dom.same {O F : List Addr} {H H' : Hp} (h : Dom O F H) (e : Same H H') : Dom O F H' := fun p q => by
  obtain ⟨o, z⟩ := h p q
  exact e.dom z
theorem hidM_new {O F : List Addr} {H : Hp} {p : Addr} {o : HO} (d : Dom O F H) (hp : H p = none) : hidM m O F (upd H p o) p = some o := by
  have : ∀ q ∈ O ++ F, q ≠ p := fun q hq z => by
    obtain ⟨o, e⟩ := d q hq
    rw [z, hp] at e; cases e
  unfold hidM
  rw [hid_out, upd_same]
  intro hq
  rcases List.mem_append.mp hq with hq | hq
  · split at hq
    · exact this p (by simp [hq]) rfl
    · cases hq
  · split at hq
    · exact this p (by simp [hq]) rfl
    · cases hq
/-- what an operation on values is worth -/
def Bin (K : PySem.W.Frag) (ma mb m : Md) (q : R2) (ra : Rp α) (rb : Rp β) (rc : Rp γ) (h : α → β → Option γ) : Prop :=
  ∀ (H : Hp) (O F : List Addr) (x : α) (y : β) (z : γ) (v w : V), Dom O F H → ra.rp K (hidM ma O F H) x v → rb.rp K (hidM mb O F H) y w → h x y = some z →
    ∀ Q : VK, (∀ u H', Same H H' → rc.rp K (hidM m O F H') z u → Q u H') → q v w H Q
theorem SemE.bin {K : PySem.W.Frag} {q : R2} {h : α → β → Option γ} {fa : ε → Rs α} {fb : ε → Rs β} (hq : Bin K ma mb m q ra rb rc h) (ha : SemE D K R ma ta ra fa) (hb : SemE D K R mb tb rb fb) :
    SemE D K R m (tOp q ta tb) rc (d2 h fa fb) := fun H O F E σ I Q k => by
  refine ha H O F E σ I _ ((good_bind k).mono (fun x ex k v H1 e1 r1 => ?_) fun c k => k)
  have I1 := I.same e1
  refine hb H1 O F E σ I1 _ ((good_bind k).mono (fun y ey k w H2 e2 r2 => ?_) fun c k H2 e2 => k H2 (e1.trans e2))
  have I2 := I1.same e2
  cases eh : h x y with
  | none => rw [eh] at k; exact k.elim
  | some z =>
    rw [eh] at k
    exact hq H2 O F x y z v w I2.dom (ra.mono (hidM_sm e2) r1) r2 eh Q fun u H3 e3 r3 => k u H3 ((e1.trans e2).trans e3) r3
theorem fe_bin {op : Operator} {q : R2} {h : α → β → Option γ} {fa : ε → Rs α} {fb : ε → Rs β} (ho : OpR X (binaryOp op) q) (hq : Bin K ma mb m q ra rb rc h) (ha : FE D X K R ma a ta ra fa) (hb : FE D X K R mb b tb rb fb) :
    FE D X K R m (.BinOp a op b pos) (tOp q ta tb) rc (d2 h fa fb) := by
  cases ha.hK
  exact ⟨rfl, pe_op ho ha.pe hb.pe, SemE.bin hq ha.sem hb.sem⟩

theorem fe_cmp {op : CmpOp} {q : R2} {h : α → β → Option γ} {fa : ε → Rs α} {fb : ε → Rs β} (ho : OpR X (compareOp op) q) (hq : Bin K ma mb m q ra rb rc h) (ha : FE D X K R ma a ta ra fa) (hb : FE D X K R mb b tb rb fb)
    (hm : behindInMarks op b = false := by first | exact nomark _ | rfl) : FE D X K R m (.Compare a [op] [b] pos) (tOp q ta tb) rc (d2 h fa fb) := by
  cases ha.hK
  exact ⟨rfl, pe_cmpR ho ha.pe hb.pe hm, SemE.bin hq ha.sem hb.sem⟩

theorem fe_ix {q : R2} {h : α → β → Option γ} {fa : ε → Rs α} {fb : ε → Rs β} (hr : IxR X q) (hq : Bin K ma mb m q ra rb rc h) (ha : FE D X K R ma a ta ra fa) (hb : FE D X K R mb b tb rb fb) (hs : PlainIx b := by intro _ _; rfl) :
    FE D X K R m (.Subscript a b pos) (tOp q ta tb) rc (d2 h fa fb) := by
  cases ha.hK
  exact ⟨rfl, pe_ix hr ha.pe hb.pe hs, SemE.bin hq ha.sem hb.sem⟩

theorem SemT.test {K : PySem.W.Frag} {t : TE} {f : ε → Rs Bool} (h : SemE D K R m t rBool f) : SemT D K R (tTest t) f := fun H O F E σ I Q k =>
  h H O F E σ I _ (k.mono (fun b _ k v H' e rv => ⟨b, rv, k H' e⟩) fun _ k => k)
theorem ft_cmp {op : CmpOp} {q : R2} {h : α → β → Option Bool} {fa : ε → Rs α} {fb : ε → Rs β} (ho : OpR X (compareOp op) q) (hq : Bin K ma mb m q ra rb rBool h) (ha : FE D X K R ma a ta ra fa) (hb : FE D X K R mb b tb rb fb)
    (hm : behindInMarks op b = false := by first | exact nomark _ | rfl) : FT D X K R (.Compare a [op] [b] pos) (tTest (tOp q ta tb)) (d2 h fa fb) := by
  cases ha.hK
  exact ⟨rfl, pt_cmpR ho ha.pe hb.pe hm, SemT.test (SemE.bin hq ha.sem hb.sem)⟩

theorem ft_val {f : ε → Rs Bool} (h : FE D X K R m e t rBool f) (he : ∀ whole, isTrue e X.env whole = (do let v ← whole; standAt e.pos; holding [v] (truthy v)) := by intro _; rfl) : FT D X K R e (tB t) f := by
  cases h.hK
  exact ⟨rfl, pt_val h.pe he, fun H O F E σ I Q k => h.sem H O F E σ I _ (k.mono (fun b _ k v H' e rv => ⟨b, rv, k H' e⟩) fun _ k => k)⟩

/-! ### and, or, not -/
section
variable {tA tB' : TT} {rest : List Expr} {fa fb : ε → Rs Bool}
theorem fw_and1 (ha : FT D X K R a tA fa) : FW D X K R (.BoolOp .And [a] pos) tA fa := by
  cases ha.hK
  exact ⟨rfl, pw_and1 ha.pt, ha.sem⟩

theorem fw_or1 (ha : FT D X K R a tA fa) : FW D X K R (.BoolOp .Or [a] pos) tA fa := by
  cases ha.hK
  exact ⟨rfl, pw_or1 ha.pt, ha.sem⟩

theorem fw_and (ha : FT D X K R a tA fa) (hb : FW D X K R (.BoolOp .And (b :: rest) pos) tB' fb) : FW D X K R (.BoolOp .And (a :: b :: rest) pos) (tAnd tA tB') (dAnd fa fb) := by
  cases ha.hK
  exact ⟨rfl, pw_and ha.pt hb.pw, fun H O F E σ I Q k => ha.sem H O F E σ I _ ((good_bind k).mono (fun c _ k H1 e1 => by
    cases c with
    | true => exact hb.sem H1 O F E σ (I.same e1) Q (Good.mono (show Good (fb E) _ _ from k) (fun d _ k H2 e2 => k H2 (e1.trans e2)) fun _ k H2 e2 => k H2 (e1.trans e2))
    | false => exact k H1 e1) fun _ k => k)⟩

theorem fw_or (ha : FT D X K R a tA fa) (hb : FW D X K R (.BoolOp .Or (b :: rest) pos) tB' fb) : FW D X K R (.BoolOp .Or (a :: b :: rest) pos) (tOr tA tB') (dOr fa fb) := by
  cases ha.hK
  exact ⟨rfl, pw_or ha.pt hb.pw, fun H O F E σ I Q k => ha.sem H O F E σ I _ ((good_bind k).mono (fun c _ k H1 e1 => by
    cases c with
    | false => exact hb.sem H1 O F E σ (I.same e1) Q (Good.mono (show Good (fb E) _ _ from k) (fun d _ k H2 e2 => k H2 (e1.trans e2)) fun _ k H2 e2 => k H2 (e1.trans e2))
    | true => exact k H1 e1) fun _ k => k)⟩

theorem FW.ft (h : FW D X K R e tA fa) : FT D X K R e tA fa := by
  cases h.hK
  exact ⟨rfl, h.pw.pt, h.sem⟩

theorem ft_not (ha : FT D X K R a tA fa) : FT D X K R (.UnaryOp .Not a pos) (tNot tA) (dNot fa) := by
  cases ha.hK
  exact ⟨rfl, pt_not ha.pt, fun H O F E σ I Q k => ha.sem H O F E σ I _ ((good_bind k).mono (fun _ _ k => k) fun _ k => k)⟩

theorem fe_one {op : BoolOp} (h : FE D X K R m a t rBool fa) : FE D X K R m (.BoolOp op [a] pos) t rBool fa := by
  cases h.hK
  exact ⟨rfl, pe_one h.pe, h.sem⟩

theorem fe_and (ha : FE D X K R ma a ta rBool fa) (hb : FE D X K R m (.BoolOp .And (b :: rest) pos) tb rBool fb) : FE D X K R m (.BoolOp .And (a :: b :: rest) pos) (tAndV ta tb) rBool (dAnd fa fb) := by
  cases ha.hK
  exact ⟨rfl, pe_and ha.pe hb.pe, fun H O F E σ I Q k => ha.sem H O F E σ I _ ((good_bind k).mono (fun c _ k v H1 e1 r1 => ⟨c, r1, by
    cases c with
    | true => exact hb.sem H1 O F E σ (I.same e1) Q (Good.mono (show Good (fb E) _ _ from k) (fun d _ k u H2 e2 => k u H2 (e1.trans e2)) fun _ k H2 e2 => k H2 (e1.trans e2))
    | false => exact k _ H1 e1 rfl⟩) fun _ k => k)⟩

theorem fe_or (ha : FE D X K R ma a ta rBool fa) (hb : FE D X K R m (.BoolOp .Or (b :: rest) pos) tb rBool fb) : FE D X K R m (.BoolOp .Or (a :: b :: rest) pos) (tOrV ta tb) rBool (dOr fa fb) := by
  cases ha.hK
  exact ⟨rfl, pe_or ha.pe hb.pe, fun H O F E σ I Q k => ha.sem H O F E σ I _ ((good_bind k).mono (fun c _ k v H1 e1 r1 => ⟨c, r1, by
    cases c with
    | false => exact hb.sem H1 O F E σ (I.same e1) Q (Good.mono (show Good (fb E) _ _ from k) (fun d _ k u H2 e2 => k u H2 (e1.trans e2)) fun _ k H2 e2 => k H2 (e1.trans e2))
    | true => exact k _ H1 e1 rfl⟩) fun _ k => k)⟩

theorem fe_not (ha : FE D X K R ma a ta rBool fa) : FE D X K R m (.UnaryOp .Not a pos) (tNotV ta) rBool (dNot fa) := by
  cases ha.hK
  exact ⟨rfl, pe_not ha.pe, fun H O F E σ I Q k => ha.sem H O F E σ I _ ((good_bind k).mono (fun c _ k v H1 e1 r1 => ⟨c, r1, k _ H1 e1 rfl⟩) fun _ k => k)⟩

theorem fe_if {f g : ε → Rs α} (hc : FT D X K R c tA fa) (ha : FE D X K R m a ta r f) (hb : FE D X K R m b tb r g) : FE D X K R m (.IfExp c a b pos) (tIf tA ta tb) r (dIf fa f g) := by
  cases hc.hK
  exact ⟨rfl, pe_ifExp hc.pt ha.pe hb.pe, fun H O F E σ I Q k => hc.sem H O F E σ I _ ((good_bind k).mono (fun d _ k H1 e1 => by
    cases d with
    | true => exact ha.sem H1 O F E σ (I.same e1) Q (Good.mono (show Good (f E) _ _ from k) (fun d _ k u H2 e2 => k u H2 (e1.trans e2)) fun _ k H2 e2 => k H2 (e1.trans e2))
    | false => exact hb.sem H1 O F E σ (I.same e1) Q (Good.mono (show Good (g E) _ _ from k) (fun d _ k u H2 e2 => k u H2 (e1.trans e2)) fun _ k H2 e2 => k H2 (e1.trans e2))) fun _ k => k)⟩

end

/-! ### numbers -/
def iI (g : Int → Int → γ) : Int → Int → Option γ := fun i j => some (g i j)
theorem b_int {K : PySem.W.Frag} {g : Int → Int → Int} : Bin K ma mb m (rI0 fun i j => .int (g i j)) rInt rInt rInt (iI g) := fun H O F x y z v w _ h1 h2 e Q q => by
  cases e
  exact ⟨x, y, h1, h2, q _ H (Same.refl H) rfl⟩
theorem b_icmp {K : PySem.W.Frag} {g : Int → Int → Bool} : Bin K ma mb m (rI0 fun i j => .bl (g i j)) rInt rInt rBool (iI g) := fun H O F x y z v w _ h1 h2 e Q q => by
  cases e
  exact ⟨x, y, h1, h2, q _ H (Same.refl H) rfl⟩
noncomputable def iC (C : Int → Int → Prop) (g : Int → Int → Int) : Int → Int → Option Int := fun i j => cIf (C i j) (some (g i j)) none
theorem b_intC {K : PySem.W.Frag} {C : Int → Int → Prop} {P : Int → Int → Prop} {g : Int → Int → Int} (hC : ∀ i j, C i j → P i j) : Bin K ma mb m (rI P fun i j => .int (g i j)) rInt rInt rInt (iC C g) := fun H O F x y z v w _ h1 h2 e Q q => by
  unfold iC at e
  by_cases c : C x y
  · rw [cIf_pos c] at e
    cases e
    exact ⟨x, y, h1, h2, hC _ _ c, q _ H (Same.refl H) rfl⟩
  · rw [cIf_neg c] at e; cases e
/-- a product, of together less than 2 ^ 26 bits -/
def mulOk (i j : Int) : Prop := i.natAbs.log2 + j.natAbs.log2 < 100000000
theorem mulOk_ok {i j : Int} (h : mulOk i j) : IntMulOk i j := by
  have b : ∀ x : Int, Builtin.Int.intBits x ≤ x.natAbs.log2 + 1 := fun x => by
    unfold Builtin.Int.intBits
    split <;> omega
  have h1 := b i
  have h2 := b j
  have h3 : i.natAbs.log2 + j.natAbs.log2 < 100000000 := h
  have e : bitsLine = 134217728 := by decide
  unfold IntMulOk
  intro z
  rw [Bool.and_eq_true] at z
  have z2 := z.2
  unfold Builtin.Int.intTooBig at z2
  have z3 := of_decide_eq_true z2
  rw [e] at z3
  omega
theorem op_mulX : OpR X (binaryOp .Mult) (rI mulOk fun i j => .int (i * j)) := opI fun _ _ _ _ _ _ _ hc q => PyProof.Rows.mul_int q (mulOk_ok hc)
theorem b_add {K : PySem.W.Frag} : Bin K ma mb m (rI0 fun i j => .int (i + j)) rInt rInt rInt (iI fun i j => i + j) := b_int
theorem b_sub {K : PySem.W.Frag} : Bin K ma mb m (rI0 fun i j => .int (i - j)) rInt rInt rInt (iI fun i j => i - j) := b_int
theorem b_mul {K : PySem.W.Frag} : Bin K ma mb m (rI mulOk fun i j => .int (i * j)) rInt rInt rInt (iC mulOk fun i j => i * j) := b_intC fun _ _ h => h
def divOk (_ j : Int) : Prop := 0 < j ∧ j.natAbs.log2 < 9000
theorem b_div {K : PySem.W.Frag} : Bin K ma mb m (rI CDivW fun i j => .int (i / j)) rInt rInt rInt (iC divOk fun i j => i / j) := b_intC fun _ _ h => h
def modOk (_ j : Int) : Prop := 0 < j
theorem b_mod {K : PySem.W.Frag} : Bin K ma mb m (rI (fun _ j => 0 < j) fun i j => .int (i % j)) rInt rInt rInt (iC modOk fun i j => i % j) := b_intC fun _ _ h => h
def powOk (i j : Int) : Prop := 0 ≤ j ∧ j ≤ 1000000 ∧ i.natAbs < 2 ^ 64
theorem b_pow {K : PySem.W.Frag} : Bin K ma mb m (rI CPow fun i j => .int (i ^ j.toNat)) rInt rInt rInt (iC powOk fun i j => i ^ j.toNat) := b_intC fun _ _ h => h
theorem b_lt {K : PySem.W.Frag} : Bin K ma mb m (rI0 fun i j => .bl (decide (i < j))) rInt rInt rBool (iI fun i j => decide (i < j)) := b_icmp
theorem b_le {K : PySem.W.Frag} : Bin K ma mb m (rI0 fun i j => .bl (decide (i ≤ j))) rInt rInt rBool (iI fun i j => decide (i ≤ j)) := b_icmp
theorem b_gt {K : PySem.W.Frag} : Bin K ma mb m (rI0 fun i j => .bl (decide (j < i))) rInt rInt rBool (iI fun i j => decide (j < i)) := b_icmp
theorem b_ge {K : PySem.W.Frag} : Bin K ma mb m (rI0 fun i j => .bl (decide (j ≤ i))) rInt rInt rBool (iI fun i j => decide (j ≤ i)) := b_icmp
def eqF [DecidableEq α] : α → α → Option Bool := fun i j => some (decide (i = j))
def neF [DecidableEq α] : α → α → Option Bool := fun i j => some (!decide (i = j))
theorem b_eqI {K : PySem.W.Frag} : Bin K ma mb m rEq rInt rInt rBool eqF := fun H O F x y z v w _ h1 h2 e Q q => by
  cases e; cases h1; cases h2
  exact ⟨rfl, q _ H (Same.refl H) (by show V.bl _ = V.bl _; congr 1; exact decide_eq_decide.mpr ⟨fun h => V.int.inj h, fun h => by rw [h]⟩)⟩
theorem b_neI {K : PySem.W.Frag} : Bin K ma mb m rNe rInt rInt rBool neF := fun H O F x y z v w _ h1 h2 e Q q => by
  cases e; cases h1; cases h2
  exact ⟨rfl, q _ H (Same.refl H) (by show V.bl _ = V.bl _; congr 2; exact decide_eq_decide.mpr ⟨fun h => V.int.inj h, fun h => by rw [h]⟩)⟩
theorem b_eqB {K : PySem.W.Frag} : Bin K ma mb m rEq rBool rBool rBool eqF := fun H O F x y z v w _ h1 h2 e Q q => by
  cases e; cases h1; cases h2
  exact ⟨rfl, q _ H (Same.refl H) (by show V.bl _ = V.bl _; congr 1; exact decide_eq_decide.mpr ⟨fun h => V.bl.inj h, fun h => by rw [h]⟩)⟩
theorem b_neB {K : PySem.W.Frag} : Bin K ma mb m rNe rBool rBool rBool neF := fun H O F x y z v w _ h1 h2 e Q q => by
  cases e; cases h1; cases h2
  exact ⟨rfl, q _ H (Same.refl H) (by show V.bl _ = V.bl _; congr 2; exact decide_eq_decide.mpr ⟨fun h => V.bl.inj h, fun h => by rw [h]⟩)⟩
theorem b_eqS {K : PySem.W.Frag} : Bin K ma mb m rEq rStr rStr rBool eqF := fun H O F x y z v w _ h1 h2 e Q q => by
  cases e; cases h1; cases h2
  exact ⟨rfl, q _ H (Same.refl H) (by show V.bl _ = V.bl _; congr 1; exact decide_eq_decide.mpr ⟨fun h => V.str.inj h, fun h => by rw [h]⟩)⟩
theorem b_neS {K : PySem.W.Frag} : Bin K ma mb m rNe rStr rStr rBool neF := fun H O F x y z v w _ h1 h2 e Q q => by
  cases e; cases h1; cases h2
  exact ⟨rfl, q _ H (Same.refl H) (by show V.bl _ = V.bl _; congr 2; exact decide_eq_decide.mpr ⟨fun h => V.str.inj h, fun h => by rw [h]⟩)⟩
theorem fe_neg {fa : ε → Rs Int} (ha : FE D X K R ma a ta rInt fa) : FE D X K R m (.UnaryOp .USub a pos) (tUn (rU fun i => .int (-i)) ta) rInt (d1 (fun i => some (-i)) fa) := by
  cases ha.hK
  exact ⟨rfl, pe_un un_neg ha.pe, fun H O F E σ I Q k => ha.sem H O F E σ I _ ((good_bind k).mono (fun i _ k v H1 e1 r1 => ⟨i, r1, k _ H1 e1 rfl⟩) fun _ k => k)⟩

/-! ### == of data -/
structure DEq (r : Rp α) [DecidableEq α] where
  toD : α → PyData
  n : Nat
  dp : ∀ {K : PySem.W.Frag} {H : Hp} {x : α} {v : V}, r.rp K H x v → Dp K H v (toD x)
  lay : ∀ x, (toD x).canLay0 = true
  dep : ∀ x, (toD x).depth ≤ n
  eqv : ∀ x y, PyData.eqv (toD x) (toD y) = decide (x = y)
def qInt : DEq rInt := ⟨.int, 0, fun {K H x v} h => by cases h; exact .int _, fun _ => rfl, fun _ => Nat.le_refl _, fun x y => by
  show PyData.eqv (.int x) (.int y) = _
  unfold PyData.eqv
  by_cases h : x = y <;> simp [h]⟩
def qBool : DEq rBool := ⟨.bool, 0, fun {K H x v} h => by cases h; exact .bl _, fun _ => rfl, fun _ => Nat.le_refl _, fun x y => by
  show PyData.eqv (.bool x) (.bool y) = _
  unfold PyData.eqv
  by_cases h : x = y <;> simp [h]⟩
theorem dpAll_of {K : PySem.W.Frag} {H : Hp} {F : α → V → Prop} {g : α → PyData} (h : ∀ x v, F x v → Dp K H v (g x)) : ∀ {xs : List α} {vs : List V}, Paired F xs vs → DpAll K H vs (xs.map g)
  | _, _, .nil => .nil
  | _, _, .cons r t => .cons (h _ _ r) (dpAll_of h t)
theorem layAll_of {g : α → PyData} (h : ∀ x, (g x).canLay0 = true) : ∀ xs : List α, PyData.canLayAll0 (xs.map g) = true
  | [] => rfl
  | x :: xs => by rw [List.map_cons, PyData.canLayAll0, h x, layAll_of h xs]; rfl
theorem depAll_of {g : α → PyData} {n : Nat} (h : ∀ x, (g x).depth ≤ n) : ∀ xs : List α, PyData.depthAll (xs.map g) ≤ n
  | [] => by rw [List.map_nil, PyData.depthAll]; exact Nat.zero_le _
  | x :: xs => by rw [List.map_cons, PyData.depthAll]; exact Nat.max_le.mpr ⟨h x, depAll_of h xs⟩
theorem eqvAll_of [DecidableEq α] {g : α → PyData} (h : ∀ x y, PyData.eqv (g x) (g y) = decide (x = y)) : ∀ xs ys : List α, PyData.eqvAll (xs.map g) (ys.map g) = decide (xs = ys)
  | [], [] => by rw [List.map_nil, PyData.eqvAll]; simp
  | [], y :: ys => by rw [List.map_nil, List.map_cons, PyData.eqvAll]; simp
  | x :: xs, [] => by rw [List.map_nil, List.map_cons, PyData.eqvAll]; simp
  | x :: xs, y :: ys => by rw [List.map_cons, List.map_cons, PyData.eqvAll, h x y, eqvAll_of h xs ys, ← Bool.decide_and]; exact decide_eq_decide.mpr (by simp)
def qList {r : Rp α} [DecidableEq α] (q : DEq r) : DEq (rList r) := ⟨fun xs => .list (xs.map q.toD), q.n + 1, fun {K H xs v} ⟨a, vs, h1, h2, hl, h3⟩ => by
    rw [h1]
    exact .lst (.inl (.inl h2)) (dpAll_of (g := q.toD) (fun _ _ => q.dp) h3),
  fun xs => by rw [PyData.canLay0]; exact layAll_of q.lay xs, fun xs => by rw [PyData.depth]; exact Nat.succ_le_succ (depAll_of q.dep xs),
  fun xs ys => by rw [PyData.eqv]; exact eqvAll_of q.eqv xs ys⟩
theorem DEq.shaped {r : Rp α} [DecidableEq α] (q : DEq r) (h : q.n ≤ 64) (x : α) : SeqAt.shaped (q.toD x) = true := by
  unfold SeqAt.shaped
  rw [q.lay, decide_eq_true (Nat.le_trans (q.dep x) h)]; rfl
theorem b_eqD {K : PySem.W.Frag} [DecidableEq α] (q : DEq r) (hn : q.n ≤ 64 := by first | decide | exact Nat.le_of_ble_eq_true rfl | exact Nat.lt_of_lt_of_le (Nat.lt_succ_self _) (Nat.le_of_ble_eq_true rfl)) : Bin K ma mb m (rEqD K) r r rBool eqF := fun H O F x y z v w _ h1 h2 e Q k => by
  cases e
  exact ⟨q.toD x, q.toD y, q.dp (r.mono hidM_low h1), q.dp (r.mono hidM_low h2), q.shaped hn x, q.shaped hn y, k _ H (Same.refl H) (by rw [q.eqv]; rfl)⟩
theorem b_neD {K : PySem.W.Frag} [DecidableEq α] (q : DEq r) (hn : q.n ≤ 64 := by first | decide | exact Nat.le_of_ble_eq_true rfl | exact Nat.lt_of_lt_of_le (Nat.lt_succ_self _) (Nat.le_of_ble_eq_true rfl)) : Bin K ma mb m (rNeD K) r r rBool neF := fun H O F x y z v w _ h1 h2 e Q k => by
  cases e
  exact ⟨q.toD x, q.toD y, q.dp (r.mono hidM_low h1), q.dp (r.mono hidM_low h2), q.shaped hn x, q.shaped hn y, k _ H (Same.refl H) (by rw [q.eqv]; rfl)⟩

/-! ### lists -/
theorem b_ixL {K : PySem.W.Frag} : Bin K m mb m (rIxL K) (rList r) rInt r atI := fun H O F x y z v w _ h1 h2 e Q k => by
  obtain ⟨p, vs, rfl, hp, hl1, hv⟩ := h1
  cases h2
  obtain ⟨j, e1, e2, e3, _, _⟩ := atI_get e
  obtain ⟨u, g1, g2⟩ := Paired.get hv e2
  have el : x.length = vs.length := Paired.len hv
  refine ⟨p, vs, y, u, rfl, rfl, .inl (.inl (hid_le.get _ _ hp)), ?_, k u H (Same.refl H) g2⟩
  unfold atI at e ⊢
  cases ei : ixN x.length y with
  | none => rw [ei] at e; cases e
  | some j' =>
    rw [ei] at e
    rw [← el, ei]
    have e' : x[j']? = some z := e
    obtain ⟨u', g1', _⟩ := Paired.get hv e'
    have : j' = j := by
      have q := (ixN_seq ei).1
      rw [e1] at q
      exact (Option.some.inj q).symm
    subst this
    exact g1
theorem b_ixQ {K : PySem.W.Frag} : Bin K m mb m (rIxL K) (rSeq r) rInt r atI := fun H O F x y z v w _ h1 h2 e Q k => by
  obtain ⟨p, vs, rfl, hp, hl1, hv⟩ := h1
  cases h2
  obtain ⟨j, e1, e2, e3, _, _⟩ := atI_get e
  obtain ⟨u, g1, g2⟩ := Paired.get hv e2
  have el : x.length = vs.length := Paired.len hv
  refine ⟨p, vs, y, u, rfl, rfl, Wk.seq hid_le hp, ?_, k u H (Same.refl H) g2⟩
  unfold atI at e ⊢
  cases ei : ixN x.length y with
  | none => rw [ei] at e; cases e
  | some j' =>
    rw [ei] at e
    rw [← el, ei]
    have : j' = j := by
      have q := (ixN_seq ei).1
      rw [e1] at q
      exact (Option.some.inj q).symm
    subst this
    exact g1
noncomputable def catF : List α → List α → Option (List α) := fun xs ys => cIf (xs.length + ys.length ≤ sizeLine) (some (xs ++ ys)) none
theorem b_cat {K : PySem.W.Frag} : Bin K m m m rCat (rList r) (rList r) (rList r) catF := fun H O F x y z v w d h1 h2 e Q k => by
  obtain ⟨p, vs, rfl, hp, hl1, hv⟩ := h1
  obtain ⟨q, us, rfl, hq, hl2, hu⟩ := h2
  unfold catF at e
  by_cases c : x.length + y.length ≤ sizeLine
  · rw [cIf_pos c] at e
    cases e
    refine ⟨p, q, vs, us, rfl, rfl, hid_le.get _ _ hp, hid_le.get _ _ hq, by rw [← Paired.len hv, ← Paired.len hu]; exact c, fun n hn => ?_⟩
    have s := Fx.same_upd (o := .lst (vs ++ us)) hn
    exact k _ _ s ⟨n, _, rfl, hidM_new d hn, by rw [List.length_append]; exact c, Paired.app (Paired.imp hv fun _ _ => r.mono (hidM_sm s)) (Paired.imp hu fun _ _ => r.mono (hidM_sm s))⟩
  · rw [cIf_neg c] at e; cases e
theorem paired_rep {F : α → V → Prop} {xs : List α} {vs : List V} (h : Paired F xs vs) : ∀ n : Nat, Paired F (List.replicate n xs).flatten (List.replicate n vs).flatten
  | 0 => .nil
  | n + 1 => by
    rw [List.replicate_succ, List.replicate_succ, List.flatten_cons, List.flatten_cons]
    exact Paired.app h (paired_rep h n)
end
end Fx

/-! Fx3: displays, calls, slices, what is walked, comprehensions. -/
namespace Fx
open PySem PySem.Spec L2
variable [Tbs]

def SemFl {ε α : Type} (D : EnvD ε) (K : PySem.W.Frag) (R : Str → Hp → Prop) (m : Md) (t : TA) (r : Rp α) (f : ε → Rs (List α)) : Prop :=
  ∀ (H : Hp) (O F : List Addr) (E : ε) (σ : L2.St), RelF D K H O F E σ → ∀ Q : List V → Hp → Prop, Good (f E) (fun a => ∀ vs H', Same H H' → Paired (r.rp K (hidM m O F H')) a vs → Q vs H') (fun c => ∀ H', Same H H' → R c H') → t σ H Q
/-- a display's items, all of one kind -/
structure FL {ε α : Type} (D : EnvD ε) (X : Cx) (K : PySem.W.Frag) (R : Str → Hp → Prop) (m : Md) (es : List Expr) (t : TA) (r : Rp α) (f : ε → Rs (List α)) : Prop where
  hK : X.K = K
  pa : PA X es t
  sem : SemFl D K R m t r f
  len : ∀ E a, f E = .ok a → a.length = es.length
/-- .. of unlike kinds -/
structure FP {ε π : Type} (D : EnvD ε) (X : Cx) (K : PySem.W.Frag) (R : Str → Hp → Prop) (m : Md) (es : List Expr) (t : TA) (P : PD π) (f : ε → Rs π) : Prop where
  hK : X.K = K
  pa : PA X es t
  sem : ∀ (H : Hp) (O F : List Addr) (E : ε) (σ : L2.St), RelF D K H O F E σ → ∀ Q : List V → Hp → Prop,
    Good (f E) (fun a => ∀ vs H', Same H H' → P.rel K (hidM m O F H') (hidM m O F H') a vs → Q vs H') (fun c => ∀ H', Same H H' → R c H') → t σ H Q
  len : ∀ K H H' a vs, P.rel K H H' a vs → vs.length = es.length
/-- a call's arguments -/
structure FA {ε π : Type} (D : EnvD ε) (X : Cx) (K : PySem.W.Frag) (R : Str → Hp → Prop) (es : List Expr) (t : TA) (P : PD π) (f : ε → Rs π) : Prop where
  hK : X.K = K
  pa : PA X es t
  sem : ∀ (H : Hp) (O F : List Addr) (E : ε) (σ : L2.St), RelF D K H O F E σ → ∀ Q : List V → Hp → Prop,
    Good (f E) (fun a => ∀ vs H', Same H H' → P.rel K (hid (O ++ F) H') H' a vs → Q vs H') (fun c => ∀ H', Same H H' → R c H') → t σ H Q
/-- a new object that nobody else holds -/
structure FN {ε α : Type} (D : EnvD ε) (X : Cx) (K : PySem.W.Frag) (R : Str → Hp → Prop) (e : Expr) (t : TE) (o : Ro α) (f : ε → Rs α) : Prop where
  hK : X.K = K
  pe : PE X e t
  sem : ∀ (H : Hp) (O F : List Addr) (E : ε) (σ : L2.St), RelF D K H O F E σ → ∀ Q : VK,
    Good (f E) (fun a => ∀ v H' F', Same H H' → (∀ p ∈ F', H p = none) → F'.Nodup → (∀ p ∈ F', ∃ u, H' p = some u) → o.rp K H' (hid (O ++ F ++ F') H') a v F' → Q v H') (fun c => ∀ H', Same H H' → R c H') → t σ H Q
section
variable {ε α β γ π ρ : Type} {D : EnvD ε} {X : Cx} {K : PySem.W.Frag} {R : Str → Hp → Prop} {m m' ma mb : Md} {e a b c : Expr} {es : List Expr} {t ta tb tc te : TE} {tr : TA} {r : Rp α} {ra : Rp α} {rb : Rp β} {rc : Rp γ} {f : ε → Rs α} {pos : Pos} {P : PD π}

def dCons (f : ε → Rs α) (g : ε → Rs (List α)) : ε → Rs (List α) := fun E => (f E).bind fun a => (g E).bind fun as => .ok (a :: as)
def dPair (f : ε → Rs α) (g : ε → Rs π) : ε → Rs (α × π) := fun E => (f E).bind fun a => (g E).bind fun p => .ok (a, p)
theorem fl_nil (hK : X.K = K := by rfl) : FL D X K R m [] tNil r (dC []) := by
  cases hK
  exact ⟨rfl, pa_nil, fun H O F E σ I Q k => k [] H (Same.refl H) .nil, fun E a h => by cases h; rfl⟩

theorem fl_cons {g : ε → Rs (List α)} (h : FE D X K R m e te r f) (hr : FL D X K R m es tr r g) (hs : starEach (e :: es) X.env = (false, eval e X.env) :: starEach es X.env := by rfl) : FL D X K R m (e :: es) (tCons te tr) r (dCons f g) := by
  cases h.hK
  exact ⟨rfl, pa_cons h.pe hr.pa hs, fun H O F E σ I Q k => h.sem H O F E σ I _ ((good_bind k).mono (fun x _ k v H1 e1 r1 => hr.sem H1 O F E σ (I.same e1) _ ((good_bind k).mono (fun xs _ k vs H2 e2 r2 =>
    k _ H2 (e1.trans e2) (.cons (r.mono (hidM_sm e2) r1) r2)) fun c k H2 e2 => k H2 (e1.trans e2))) fun _ k => k), fun E a h => by
    unfold dCons at h
    cases h1 : f E with
    | ok x =>
      rw [h1] at h
      cases h2 : g E with
      | ok xs =>
        rw [h2] at h
        cases h
        rw [List.length_cons, List.length_cons, hr.len E xs h2]
      | exc c => rw [h2] at h; cases h
      | bad => rw [h2] at h; cases h
    | exc c => rw [h1] at h; cases h
    | bad => rw [h1] at h; cases h⟩

theorem fp_nil (hK : X.K = K := by rfl) : FP D X K R m [] tNil pNil (dC ()) := by
  cases hK
  exact ⟨rfl, pa_nil, fun H O F E σ I Q k => k [] H (Same.refl H) rfl, fun K H H' a vs h => by
  have h : vs = [] := h
  rw [h]; rfl⟩

theorem fp_cons {g : ε → Rs π} (h : FE D X K R m e te r f) (hr : FP D X K R m es tr P g) (hs : starEach (e :: es) X.env = (false, eval e X.env) :: starEach es X.env := by rfl) : FP D X K R m (e :: es) (tCons te tr) (pC true r P) (dPair f g) := by
  cases h.hK
  exact ⟨rfl, pa_cons h.pe hr.pa hs, fun H O F E σ I Q k => h.sem H O F E σ I _ ((good_bind k).mono (fun x _ k v H1 e1 r1 => hr.sem H1 O F E σ (I.same e1) _ ((good_bind k).mono (fun xs _ k vs H2 e2 r2 =>
    k _ H2 (e1.trans e2) ⟨v, vs, rfl, r.mono (hidM_sm e2) r1, r2⟩) fun c k H2 e2 => k H2 (e1.trans e2))) fun _ k => k), fun K H H' a vs h => by
    obtain ⟨v, us, h1, h2, h3⟩ := h
    rw [h1, List.length_cons, List.length_cons, hr.len _ _ _ _ _ h3]⟩

theorem fa_nil (hK : X.K = K := by rfl) : FA D X K R [] tNil pNil (dC ()) := by
  cases hK
  exact ⟨rfl, pa_nil, fun H O F E σ I Q k => k [] H (Same.refl H) rfl⟩

theorem fa_consS {g : ε → Rs π} (h : FE D X K R mS e te r f) (hr : FA D X K R es tr P g) (hs : starEach (e :: es) X.env = (false, eval e X.env) :: starEach es X.env := by rfl) : FA D X K R (e :: es) (tCons te tr) (pC true r P) (dPair f g) := by
  cases h.hK
  exact ⟨rfl, pa_cons h.pe hr.pa hs, fun H O F E σ I Q k => h.sem H O F E σ I _ ((good_bind k).mono (fun x _ k v H1 e1 r1 => hr.sem H1 O F E σ (I.same e1) _ ((good_bind k).mono (fun xs _ k vs H2 e2 r2 =>
    k _ H2 (e1.trans e2) ⟨v, vs, rfl, r.mono (hid_sm e2) r1, r2⟩) fun c k H2 e2 => k H2 (e1.trans e2))) fun _ k => k)⟩

theorem fa_consB {g : ε → Rs π} (h : FE D X K R mW e te r f) (hr : FA D X K R es tr P g) (hs : starEach (e :: es) X.env = (false, eval e X.env) :: starEach es X.env := by rfl) : FA D X K R (e :: es) (tCons te tr) (pC false r P) (dPair f g) := by
  cases h.hK
  exact ⟨rfl, pa_cons h.pe hr.pa hs, fun H O F E σ I Q k => h.sem H O F E σ I _ ((good_bind k).mono (fun x _ k v H1 e1 r1 => hr.sem H1 O F E σ (I.same e1) _ ((good_bind k).mono (fun xs _ k vs H2 e2 r2 =>
    k _ H2 (e1.trans e2) ⟨v, vs, rfl, r.mono (Wk.trans hidM_low e2.wk) r1, r2⟩) fun c k H2 e2 => k H2 (e1.trans e2))) fun _ k => k)⟩

/-! ### displays -/
theorem line1000 {n : Nat} (h : n ≤ 1000) : n ≤ sizeLine := Nat.le_of_lt (small1000 h)
theorem fe_list {g : ε → Rs (List α)} (h : FL D X K R m es tr r g) (hl : es.length ≤ 1000 := by decide) : FE D X K R m (.List es pos) (tLst tr) (rList r) g := by
  cases h.hK
  exact ⟨rfl, pe_lst h.pa, fun H O F E σ I Q k => h.sem H O F E σ I _ (k.mono (fun xs ex k vs H1 e1 r1 => by
    have el := h.len E xs ex
    refine ⟨by rw [← Paired.len r1, el]; exact line1000 hl, fun p hp => ?_⟩
    have s := Fx.same_upd (o := .lst vs) hp
    exact k _ _ (e1.trans s) ⟨p, vs, rfl, hidM_new (Dom.same I.dom e1) hp, by rw [el]; exact line1000 hl, Paired.imp r1 fun _ _ => r.mono (hidM_sm s)⟩) fun _ k => k)⟩

theorem fn_list {g : ε → Rs (List α)} (h : FL D X K R mS es tr r g) (hl : es.length ≤ 1000 := by decide) : FN D X K R (.List es pos) (tLst tr) (oList r) g := by
  cases h.hK
  exact ⟨rfl, pe_lst h.pa, fun H O F E σ I Q k => h.sem H O F E σ I _ (k.mono (fun xs ex k vs H1 e1 r1 => by
    have el := h.len E xs ex
    refine ⟨by rw [← Paired.len r1, el]; exact line1000 hl, fun p hp => ?_⟩
    have s := Fx.same_upd (o := .lst vs) hp
    refine k _ _ [p] (e1.trans s) (fun q hq => ?_) (List.nodup_cons.mpr ⟨by simp, List.nodup_nil⟩) (fun q hq => ?_) ⟨p, vs, rfl, rfl, upd_same, by rw [el]; exact line1000 hl, Paired.imp r1 fun _ _ => r.mono (.mk fun q o hq _ => ?_)⟩
    · have : q = p := by simpa using hq
      rw [this]; exact e1.free hp
    · have : q = p := by simpa using hq
      exact ⟨_, by rw [this]; exact upd_same⟩
    · obtain ⟨h1, h2⟩ := hid_some hq
      have hn : q ≠ p := ne_of_none h2 hp
      rw [hid_out (by intro z; rcases List.mem_append.mp z with z | z; exact h1 z; exact hn (by simpa using z)), upd_ne hn]
      exact h2) fun _ k => k)⟩

theorem fe_tup {g : ε → Rs π} {x1} (h : FP D X K R m es tr P g) (hl : es.length ≤ 1000 := by decide) : FE D X K R m (.Tuple es x1 pos) (tTup tr) (rTup P) g := by
  cases h.hK
  exact ⟨rfl, pe_tup h.pa, fun H O F E σ I Q k => h.sem H O F E σ I _ (k.mono (fun xs ex k vs H1 e1 r1 => by
    have el := h.len _ _ _ _ _ r1
    refine ⟨by rw [el]; exact line1000 hl, fun p hp => ?_⟩
    have s := Fx.same_upd (o := .tup vs) hp
    exact k _ _ (e1.trans s) ⟨p, vs, rfl, hidM_new (Dom.same I.dom e1) hp, P.mono (hidM_sm s) (hidM_sm s) r1⟩) fun _ k => k)⟩

theorem fe_row {g : ε → Rs π} (h : FP D X K R m es tr P g) (hl : es.length ≤ 1000 := by decide) : FE D X K R m (.List es pos) (tLst tr) (rRow P) g := by
  cases h.hK
  exact ⟨rfl, pe_lst h.pa, fun H O F E σ I Q k => h.sem H O F E σ I _ (k.mono (fun xs ex k vs H1 e1 r1 => by
    have el := h.len _ _ _ _ _ r1
    refine ⟨by rw [el]; exact line1000 hl, fun p hp => ?_⟩
    have s := Fx.same_upd (o := .lst vs) hp
    exact k _ _ (e1.trans s) ⟨p, vs, rfl, hidM_new (Dom.same I.dom e1) hp, P.mono (hidM_sm s) (hidM_sm s) r1⟩) fun _ k => k)⟩

/-- a new thing is shared -/
theorem fe_fz {o : Ro α} (h : FN D X K R e t o f) : FE D X K R mS e t o.sh f := by
  cases h.hK
  exact ⟨rfl, h.pe, fun H O F E σ I Q k => h.sem H O F E σ I Q (k.mono (fun x _ k v H1 F1 e1 n1 nd d1 r1 => by
  refine k v H1 e1 ?_
  refine o.toSh (o.frame (H' := hid (O ++ F) H1) (Hs' := hid (O ++ F ++ F1) H1) r1 (Wk.refl _) fun p hp u hu _ => ?_) (hid_sub fun p hp => List.mem_append_left _ hp)
  rw [hid_out]
  · exact hu
  · intro q
    obtain ⟨u, z⟩ := I.dom p q
    rw [n1 p hp] at z; cases z) fun _ k => k)⟩

/-! ### calls of built-in functions -/
def C1 (K : PySem.W.Frag) (ma m : Md) (q : List V → Hp → VK → Prop) (ra : Rp α) (rc : Rp γ) (h : α → Option γ) : Prop :=
  ∀ (H : Hp) (O F : List Addr) (x : α) (z : γ) (v : V), Dom O F H → ra.rp K (hidM ma O F H) x v → h x = some z → ∀ Q : VK, (∀ u H', Same H H' → rc.rp K (hidM m O F H') z u → Q u H') → q [v] H Q
def C2 (K : PySem.W.Frag) (ma mb m : Md) (q : List V → Hp → VK → Prop) (ra : Rp α) (rb : Rp β) (rc : Rp γ) (h : α → β → Option γ) : Prop :=
  ∀ (H : Hp) (O F : List Addr) (x : α) (y : β) (z : γ) (v w : V), Dom O F H → ra.rp K (hidM ma O F H) x v → rb.rp K (hidM mb O F H) y w → h x y = some z → ∀ Q : VK, (∀ u H', Same H H' → rc.rp K (hidM m O F H') z u → Q u H') → q [v, w] H Q
theorem SemE.c1 {K : PySem.W.Frag} {q : List V → Hp → VK → Prop} {h : α → Option γ} (hq : C1 K ma m q ra rc h) (ha : SemE D K R ma ta ra f) : SemE D K R m (tCB q (tCons ta tNil)) rc (d1 h f) := fun H O F E σ I Q k =>
  ha H O F E σ I _ ((good_bind k).mono (fun x ex k v H1 e1 r1 => by
    cases eh : h x with
    | none => rw [eh] at k; exact k.elim
    | some z =>
      rw [eh] at k
      exact hq H1 O F x z v (Dom.same I.dom e1) r1 eh Q fun u H3 e3 r3 => k u H3 (e1.trans e3) r3) fun c k => k)
theorem SemE.c2 {K : PySem.W.Frag} {q : List V → Hp → VK → Prop} {h : α → β → Option γ} {g : ε → Rs β} (hq : C2 K ma mb m q ra rb rc h) (ha : SemE D K R ma ta ra f) (hb : SemE D K R mb tb rb g) : SemE D K R m (tCB q (tCons ta (tCons tb tNil))) rc (d2 h f g) := fun H O F E σ I Q k =>
  ha H O F E σ I _ ((good_bind k).mono (fun x ex k v H1 e1 r1 => hb H1 O F E σ (I.same e1) _ ((good_bind k).mono (fun y ey k w H2 e2 r2 => by
    cases eh : h x y with
    | none => rw [eh] at k; exact k.elim
    | some z =>
      rw [eh] at k
      exact hq H2 O F x y z v w (Dom.same I.dom (e1.trans e2)) (ra.mono (hidM_sm e2) r1) r2 eh Q fun u H3 e3 r3 => k u H3 ((e1.trans e2).trans e3) r3) fun c k H2 e2 => k H2 (e1.trans e2))) fun c k => k)
section
variable {x : Str} {p : Pos} {id T : String} {q : List V → Hp → VK → Prop}
theorem fe_b1 {h : α → Option γ} (hc : CallR X (.builtin id) q) (hq : C1 K ma m q ra rc h) (hg : Gl X x) (hm : X.mg x = none) (hv : bootBuiltins x = some (.builtin id)) (ha : FE D X K R ma e ta ra f) (hn : x ≠ "__name__" := by decide) (hdb : (x == ("__debug__" : Str)) = false := by decide)
    (he : starEach (e :: []) X.env = (false, eval e X.env) :: starEach [] X.env := by rfl) (hpl : (backTo pos (starEach [] X.env)).any (·.1) = false := by rfl) : FE D X K R m (.Call (.Name x p) [e] [] pos) (tCB q (tCons ta tNil)) rc (d1 h f) := by
  cases ha.hK
  exact ⟨rfl, pe_callB hc hg hm hv (pa_cons ha.pe pa_nil he) hn hdb he hpl, SemE.c1 hq ha.sem⟩

theorem fe_t1 {h : α → Option γ} (hc : CallR X (.type T) q) (hq : C1 K ma m q ra rc h) (hg : Gl X x) (hm : X.mg x = none) (hv : bootBuiltins x = some (.type T)) (ha : FE D X K R ma e ta ra f) (hn : x ≠ "__name__" := by decide) (hdb : (x == ("__debug__" : Str)) = false := by decide)
    (he : starEach (e :: []) X.env = (false, eval e X.env) :: starEach [] X.env := by rfl) (hpl : (backTo pos (starEach [] X.env)).any (·.1) = false := by rfl) : FE D X K R m (.Call (.Name x p) [e] [] pos) (tCB q (tCons ta tNil)) rc (d1 h f) := by
  cases ha.hK
  exact ⟨rfl, pe_callTy hc hg hm hv (pa_cons ha.pe pa_nil he) hn hdb he hpl, SemE.c1 hq ha.sem⟩

theorem fe_b2 {h : α → β → Option γ} {g : ε → Rs β} (hc : CallR X (.builtin id) q) (hq : C2 K ma mb m q ra rb rc h) (hg : Gl X x) (hm : X.mg x = none) (hv : bootBuiltins x = some (.builtin id)) (ha : FE D X K R ma a ta ra f) (hb : FE D X K R mb b tb rb g) (hn : x ≠ "__name__" := by decide) (hdb : (x == ("__debug__" : Str)) = false := by decide)
    (he : starEach (a :: [b]) X.env = (false, eval a X.env) :: starEach [b] X.env := by rfl) (he2 : starEach (b :: []) X.env = (false, eval b X.env) :: starEach [] X.env := by rfl) (hpl : (backTo pos (starEach [b] X.env)).any (·.1) = false := by rfl) :
    FE D X K R m (.Call (.Name x p) [a, b] [] pos) (tCB q (tCons ta (tCons tb tNil))) rc (d2 h f g) := by
  cases ha.hK
  exact ⟨rfl, pe_callB hc hg hm hv (pa_cons ha.pe (pa_cons hb.pe pa_nil he2) he) hn hdb he hpl, SemE.c2 hq ha.sem hb.sem⟩

end
section
variable {K : PySem.W.Frag}
def qLen (K : PySem.W.Frag) : List V → Hp → VK → Prop := fun xs H Q => ∃ p ys, xs = [.ref p] ∧ (SqL K H p ys ∨ SqT K H p ys) ∧ Q (.int ys.length) H
def lenF : List α → Option Int := fun xs => some (xs.length : Int)
theorem c_lenL : C1 K ma m (qLen K) (rList r) rInt lenF := fun H O F x z v d h e Q k => by
  obtain ⟨p, vs, rfl, hp, hl, hv⟩ := h
  cases e
  exact ⟨p, vs, rfl, .inl (.inl (.inl (hid_le.get _ _ hp))), k _ H (Same.refl H) (by rw [Paired.len hv]; rfl)⟩
theorem c_lenQ : C1 K ma m (qLen K) (rSeq r) rInt lenF := fun H O F x z v d h e Q k => by
  obtain ⟨p, vs, rfl, hp, hl, hv⟩ := h
  cases e
  exact ⟨p, vs, rfl, .inl (Wk.seq hid_le hp), k _ H (Same.refl H) (by rw [Paired.len hv]; rfl)⟩
theorem fe_len {xs : Type} {f : ε → Rs xs} {ra : Rp xs} {h : xs → Option Int} {p : Pos} (hq : C1 K ma m (qLen K) ra rInt h) (hg : Gl X "len") (hm : X.mg "len" = none) (ha : FE D X K R ma e ta ra f)
    (he : starEach (e :: []) X.env = (false, eval e X.env) :: starEach [] X.env := by rfl) (hpl : (backTo pos (starEach [] X.env)).any (·.1) = false := by rfl) : FE D X K R m (.Call (.Name "len" p) [e] [] pos) (tCB (qLen K) (tCons ta tNil)) rInt (d1 h f) := by
  cases ha.hK
  exact fe_b1 call_len_seq hq hg hm PySem.boot_len ha (by decide) (by decide) he hpl

theorem paired_int {H : Hp} : ∀ {xs : List Int} {vs : List V}, Paired (rInt.rp K H) xs vs → vs = xs.map V.int
  | _, _, .nil => rfl
  | _, _, .cons r t => by
    have e := paired_int t
    have r : _ = V.int _ := r
    rw [e, r, List.map_cons]
theorem paired_bool {H : Hp} : ∀ {xs : List Bool} {vs : List V}, Paired (rBool.rp K H) xs vs → vs = xs.map V.bl
  | _, _, .nil => rfl
  | _, _, .cons r t => by
    have e := paired_bool t
    have r : _ = V.bl _ := r
    rw [e, r, List.map_cons]
def sumF : List Int → Option Int := fun xs => some xs.sum
theorem c_sum : C1 K ma m (rSum K) (rList rInt) rInt sumF := fun H O F x z v d h e Q k => by
  obtain ⟨p, vs, rfl, hp, hl, hv⟩ := h
  cases e
  exact ⟨p, x, rfl, by rw [← paired_int hv]; exact .inl (.inl (hid_le.get _ _ hp)), k _ H (Same.refl H) rfl⟩
def maxF : List Int → Option Int := fun xs => xs.max?
def minF : List Int → Option Int := fun xs => xs.min?
theorem c_max : C1 K ma m (rMax K) (rList rInt) rInt maxF := fun H O F x z v d h e Q k => by
  obtain ⟨p, vs, rfl, hp, hl, hv⟩ := h
  refine ⟨p, x, rfl, by rw [← paired_int hv]; exact .inl (.inl (hid_le.get _ _ hp)), ?_, fun y hy hm => ?_⟩
  · cases x with
    | nil => cases e
    | cons _ _ => exact Nat.zero_lt_succ _
  · have e2 : x.max? = some y := List.max?_eq_some_iff.mpr ⟨hy, hm⟩
    have e : x.max? = some z := e
    rw [e2] at e; cases e
    exact k _ H (Same.refl H) rfl
theorem c_min : C1 K ma m (rMin K) (rList rInt) rInt minF := fun H O F x z v d h e Q k => by
  obtain ⟨p, vs, rfl, hp, hl, hv⟩ := h
  refine ⟨p, x, rfl, by rw [← paired_int hv]; exact .inl (.inl (hid_le.get _ _ hp)), ?_, fun y hy hm => ?_⟩
  · cases x with
    | nil => cases e
    | cons _ _ => exact Nat.zero_lt_succ _
  · have e2 : x.min? = some y := List.min?_eq_some_iff.mpr ⟨hy, hm⟩
    have e : x.min? = some z := e
    rw [e2] at e; cases e
    exact k _ H (Same.refl H) rfl
def allF : List Bool → Option Bool := fun xs => some (xs.all id)
def anyF : List Bool → Option Bool := fun xs => some (xs.any id)
theorem c_all : C1 K ma m (rAll K) (rList rBool) rBool allF := fun H O F x z v d h e Q k => by
  obtain ⟨p, vs, rfl, hp, hl, hv⟩ := h
  cases e
  exact ⟨p, x, rfl, by rw [← paired_bool hv]; exact .inl (.inl (hid_le.get _ _ hp)), k _ H (Same.refl H) rfl⟩
theorem c_any : C1 K ma m (rAny K) (rList rBool) rBool anyF := fun H O F x z v d h e Q k => by
  obtain ⟨p, vs, rfl, hp, hl, hv⟩ := h
  cases e
  exact ⟨p, x, rfl, by rw [← paired_bool hv]; exact .inl (.inl (hid_le.get _ _ hp)), k _ H (Same.refl H) rfl⟩
def qMax2 : List V → Hp → VK → Prop := fun xs H Q => ∃ i j, xs = [.int i, .int j] ∧ Q (.int (if j > i then j else i)) H
def qMin2 : List V → Hp → VK → Prop := fun xs H Q => ∃ i j, xs = [.int i, .int j] ∧ Q (.int (if j < i then j else i)) H
def max2F : Int → Int → Option Int := fun i j => some (max i j)
def min2F : Int → Int → Option Int := fun i j => some (min i j)
theorem c_max2 : C2 K ma mb m qMax2 rInt rInt rInt max2F := fun H O F x y z v w d h1 h2 e Q k => by
  cases h1; cases h2; cases e
  refine ⟨x, y, rfl, k _ H (Same.refl H) ?_⟩
  show V.int _ = V.int _
  congr 1
  split <;> omega
theorem c_min2 : C2 K ma mb m qMin2 rInt rInt rInt min2F := fun H O F x y z v w d h1 h2 e Q k => by
  cases h1; cases h2; cases e
  refine ⟨x, y, rfl, k _ H (Same.refl H) ?_⟩
  show V.int _ = V.int _
  congr 1
  split <;> omega
def qAbs : List V → Hp → VK → Prop := fun xs H Q => ∃ i, xs = [.int i] ∧ Q (.int (if i < 0 then -i else i)) H
theorem c_abs : C1 K ma m qAbs rInt rInt (fun i => some (if i < 0 then -i else i)) := fun H O F x z v d h e Q k => by
  cases h; cases e
  exact ⟨x, rfl, k _ H (Same.refl H) rfl⟩
def qInt1 : List V → Hp → VK → Prop := fun xs H Q => (∃ i, xs = [.int i] ∧ Q (.int i) H) ∨ ∃ k, xs = [.bl k] ∧ Q (.int (if k then 1 else 0)) H
theorem c_intB : C1 K ma m qInt1 rBool rInt (fun b => some (if b then 1 else 0)) := fun H O F x z v d h e Q k => by
  cases h; cases e
  exact .inr ⟨x, rfl, k _ H (Same.refl H) rfl⟩
def qListOf (K : PySem.W.Frag) : List V → Hp → VK → Prop := fun xs H Q => ∃ p ys, xs = [.ref p] ∧ (SqL K H p ys ∨ SqT K H p ys) ∧ ∀ l, H l = none → Q (.ref l) (upd H l (.lst ys))
theorem c_list : C1 K m m (qListOf K) (rList r) (rList r) some := fun H O F x z v d h e Q k => by
  obtain ⟨p, vs, rfl, hp, hl, hv⟩ := h
  cases e
  refine ⟨p, vs, rfl, .inl (.inl (.inl (hid_le.get _ _ hp))), fun n hn => ?_⟩
  have s := Fx.same_upd (o := .lst vs) hn
  exact k _ _ s ⟨n, vs, rfl, hidM_new d hn, hl, Paired.imp hv fun _ _ => r.mono (hidM_sm s)⟩
/-- isinstance, the type known -/
def Ty (r : Rp α) (T : String) : Prop := ∀ (K : PySem.W.Frag) (H : Hp) (x : α) (v : V), r.rp K H x v → TyX K H v (.type T)
theorem ty_int : Ty rInt "int" := fun K H x v h => by cases h; exact .base (.int _)
theorem ty_bool : Ty rBool "bool" := fun K H x v h => by cases h; exact .base (.bl _)
theorem ty_str : Ty rStr "str" := fun K H x v h => by cases h; exact .base (.str _)
theorem ty_none : Ty rNone "NoneType" := fun K H x v h => by cases h; exact .base .non
theorem ty_list : Ty (rList r) "list" := fun K H x v ⟨p, vs, h1, h2, h3⟩ => by rw [h1]; exact .base (.lst h2)
theorem ty_row : Ty (rRow P) "list" := fun K H x v ⟨p, vs, h1, h2, h3⟩ => by rw [h1]; exact .base (.lst h2)
theorem ty_tup : Ty (rTup P) "tuple" := fun K H x v ⟨p, vs, h1, h2, h3⟩ => by rw [h1]; exact .base (.tup h2)
theorem TyX.same {K : PySem.W.Frag} {H H' : Hp} {v : V} {t : Value} (h : TyX K H v t) (e : Wk H H') : TyX K H' v t := by
  cases h with
  | base b => 
    cases b with
    | non => exact .base .non
    | bl x => exact .base (.bl x)
    | int i => exact .base (.int i)
    | str x => exact .base (.str x)
    | flt x => exact .base (.flt x)
    | lst q => exact .base (.lst (e.get _ _ q))
    | frz q => exact .base (.frz (e.get _ _ q))
    | tup q => exact .base (.tup (e.get _ _ q))
    | dK q => exact .base (.dK (e.get _ _ q))
    | dT q => exact .base (.dT (e.get _ _ q))
    | ins q a b c d f => exact .base (.ins (e.get _ _ q) a b c d f)
  | byt b => exact .byt b
  | set q => exact .set (e.get _ _ q)
  | kList a b => exact .kList a b
  | kTuple a b => exact .kTuple a b
  | kDict a b => exact .kDict a b
  | fTuple q => exact .fTuple (e.get _ _ q)
  | fDict q => exact .fDict (e.get _ _ q)
/-- isinstance(x, T), T a built-in type -/
theorem fe_isi {y : Str} {p p2 : Pos} {T U : String} {k : Bool} (hT : Ty ra T) (hk : kitB T U = some k) (hg : Gl X "isinstance") (hm : X.mg "isinstance" = none) (hg2 : Gl X y) (hm2 : X.mg y = none) (hv2 : bootBuiltins y = some (.type U)) (ha : FE D X K R ma e ta ra f)
    (hn : y ≠ "__name__" := by decide) (hdb : (y == ("__debug__" : Str)) = false := by decide)
    (he : starEach (e :: [.Name y p2]) X.env = (false, eval e X.env) :: starEach [.Name y p2] X.env := by rfl) (he2 : starEach [.Name y p2] X.env = (false, eval (.Name y p2) X.env) :: starEach [] X.env := by rfl) (hpl : (backTo pos (starEach [.Name y p2] X.env)).any (·.1) = false := by rfl) :
    FE D X K R m (.Call (.Name "isinstance" p) [e, .Name y p2] [] pos) (tCB (rIsi K) (tCons ta (tCons (tC (.ty U)) tNil))) rBool (d1 (fun _ => some k) f) := by
  cases ha.hK
  exact ⟨rfl, pe_callB call_isi hg hm PyProof.Rows.boot_isinstance (pa_cons ha.pe (pa_cons (pe_bltn hg2 hm2 hv2 rfl hn hdb) pa_nil he2) he) (by decide) (by decide) he hpl, fun H O F E σ I Q kk =>
    ha.sem H O F E σ I _ ((good_bind kk).mono (fun x ex kk v H1 e1 r1 => ⟨v, .ty U, .type T, .type U, k, rfl, .ty U, TyX.same (hT _ _ _ _ r1) hidM_low, kit_ty hk, kk _ H1 e1 rfl⟩) fun c kk => kk)⟩

end

/-! ### slices -/
def cutF (lo hi : Option Int) (xs : List α) : List α := (xs.drop (HT.sIx xs.length 0 lo)).take (HT.sIx xs.length xs.length hi - HT.sIx xs.length 0 lo)
theorem cutF_len (lo hi : Option Int) (xs : List α) : (cutF lo hi xs).length ≤ xs.length := by
  unfold cutF
  rw [List.length_take, List.length_drop]
  omega
structure FO (D : EnvD ε) (X : Cx) (K : PySem.W.Frag) (R : Str → Hp → Prop) (e : Option Expr) (t : TO) (f : ε → Rs (Option Int)) : Prop where
  hK : X.K = K
  po : PO X e t
  sem : ∀ (H : Hp) (O F : List Addr) (E : ε) (σ : L2.St), RelF D K H O F E σ → ∀ Q : Option Int → Hp → Prop, Good (f E) (fun o => ∀ H', Same H H' → Q o H') (fun c => ∀ H', Same H H' → R c H') → t σ H Q
theorem fo_none (hK : X.K = K := by rfl) : FO D X K R none tNoPart (dC none) := by
  cases hK
  exact ⟨rfl, po_none, fun H O F E σ I Q k => k H (Same.refl H)⟩

theorem fo_some {g : ε → Rs Int} (h : FE D X K R m e te rInt g) : FO D X K R (some e) (tPart te) (d1 (fun i => some (some i)) g) := by
  cases h.hK
  exact ⟨rfl, po_some h.pe, fun H O F E σ I Q k =>
  h.sem H O F E σ I _ ((good_bind k).mono (fun i _ k v H1 e1 r1 => ⟨i, r1, k H1 e1⟩) fun _ k => k)⟩

def dCut (f : ε → Rs (List α)) (lo hi : ε → Rs (Option Int)) : ε → Rs (List α) := fun E => (f E).bind fun xs => (lo E).bind fun l => (hi E).bind fun h => .ok (cutF l h xs)
theorem paired_cut {F : α → V → Prop} {xs : List α} {vs : List V} (h : Paired F xs vs) (lo hi : Option Int) : Paired F (cutF lo hi xs) (cutV vs lo hi) := by
  unfold cutF cutV
  rw [← Paired.len h]
  exact Paired.tk _ (Paired.dp _ h)
/-- what may be cut: a list, or the script -/
def Cuts (rs : Rp (List α)) (r : Rp α) : Prop := ∀ (K : PySem.W.Frag) (H : Hp) (xs : List α) (v : V), rs.rp K H xs v → ∃ p vs, v = .ref p ∧ SqL K H p vs ∧ xs.length ≤ sizeLine ∧ Paired (r.rp K H) xs vs
theorem cuts_list : Cuts (rList r) r := fun K H xs v ⟨p, vs, h1, h2, h3, h4⟩ => ⟨p, vs, h1, .inl (.inl h2), h3, h4⟩
theorem cuts_seq : Cuts (rSeq r) r := fun K H xs v ⟨p, vs, h1, h2, h3, h4⟩ => ⟨p, vs, h1, h2, h3, h4⟩
theorem fe_cut {rs : Rp (List α)} {g : ε → Rs (List α)} {lo hi : Option Expr} {tl th : TO} {fl fh : ε → Rs (Option Int)} {p2 : Pos} (hc : Cuts rs r) (h : FE D X K R m e te rs g) (hl : FO D X K R lo tl fl) (hh : FO D X K R hi th fh) :
    FE D X K R m (.Subscript e (.Slice lo hi none p2) pos) (tSl (rSlL K) te tl th) (rList r) (dCut g fl fh) := by
  cases h.hK
  exact ⟨rfl, pe_slice sl_list h.pe hl.po hh.po, fun H O F E σ I Q k =>
  h.sem H O F E σ I _ ((good_bind k).mono (fun xs _ k v H1 e1 r1 => hl.sem H1 O F E σ (I.same e1) _ ((good_bind k).mono (fun l _ k H2 e2 => hh.sem H2 O F E σ (I.same (e1.trans e2)) _ ((good_bind k).mono (fun u _ k H3 e3 => by
    have r3 := rs.mono (hidM_sm (e2.trans e3)) r1
    obtain ⟨p, vs, h1, h2, hz, h3⟩ := hc _ _ _ _ r3
    subst h1
    refine ⟨p, vs, rfl, Wk.seq hidM_low h2, fun n hn => ?_⟩
    have s := Fx.same_upd (o := .lst (cutV vs l u)) hn
    exact k _ _ (((e1.trans e2).trans e3).trans s) ⟨n, _, rfl, hidM_new (Dom.same I.dom ((e1.trans e2).trans e3)) hn, Nat.le_trans (cutF_len _ _ _) hz, Paired.imp (paired_cut h3 l u) fun _ _ => r.mono (hidM_sm s)⟩)
    fun c k H3 e3 => k H3 ((e1.trans e2).trans e3))) fun c k H2 e2 => k H2 (e1.trans e2))) fun _ k => k)⟩

/-! ### calls of the text's own defs -/
/-- how a def's answer is held: shared, or owned -/
structure RetD (ρ : Type) where
  rel : PySem.W.Frag → Hp → List Addr → ρ → V → List Addr → Prop
def retS (r : Rp ρ) : RetD ρ := ⟨fun K H O a v F => F = [] ∧ r.rp K (hid O H) a v⟩
def retO (o : Ro ρ) : RetD ρ := ⟨fun K H O a v F => o.rp K H (hid (O ++ F) H) a v F⟩
/-- an exception of the class that the name stands for -/
def xk (ca : Str → Option Addr) (E : XK) (c : Str) (H : Hp) : Prop := ∃ C, ca c = some C ∧ E (.ref C) none H
/-- no exception leaves -/
def x0 : XK → Str → Hp → Prop := fun _ _ _ => False
def spM (K : PySem.W.Frag) (XQ : XK → Str → Hp → Prop) (P : PD π) (rr : RetD ρ) (mf : π → Rs ρ) : Sp := fun vs H Q E => ∃ (O : List Addr) (args : π), P.rel K (hid O H) H args vs ∧ Dom O [] H ∧ LamX.Tabs Tbs.T H ∧
  Good (mf args) (fun d => ∀ v H' F', Same H H' → (∀ p ∈ F', H p = none) → F'.Nodup → (∀ p ∈ F', ∃ u, H' p = some u) → rr.rel K H' O d v F' → Q v H') (fun c => ∀ H', Same H H' → XQ E c H')
/-- a def's answer where none is raised -/
def nox {α : Type} : Rs α → Rs α
  | .ok a => .ok a
  | .exc _ => .bad
  | .bad => .bad
@[simp] theorem nox_ok {α : Type} (a : α) : nox (.ok a) = .ok a := rfl
theorem good_nox {α : Type} {m : Rs α} {Q : α → Prop} {R R' : Str → Prop} (h : Good (nox m) Q R) : Good m Q R' := by
  cases m with
  | ok a => exact h
  | exc c => exact h.elim
  | bad => exact h
def dCall (mf : π → Rs ρ) (g : ε → Rs π) : ε → Rs ρ := fun E => (g E).bind fun a => nox (mf a)
def dCallX (mf : π → Rs ρ) (g : ε → Rs π) : ε → Rs ρ := fun E => (g E).bind mf
section
variable {CX : CXT} {k : Nat} {fa : Addr} {fd : FuncData} {ps : List Str} {XQ : XK → Str → Hp → Prop} {EX : XK} {x : Str} {p : Pos} {mf : π → Rs ρ} {g : ε → Rs π} {rr : Rp ρ} {oo : Ro ρ}
theorem dom_nil {O F : List Addr} {H : Hp} (d : Dom O F H) : Dom (O ++ F) [] H := fun p h => d p (by simpa using h)
theorem fe_call (F : FnOk X.prog X.w K X.mg X.base CX k fa fd ps (spM K XQ P (retS rr) mf)) (hr : Room k X.A) (hg : Gl X x) (hm : X.mg x = some (.ref fa)) (hk : PySem.W.keepIn K (.ref fa) = true) (hb : Binds K fd ps []) (hx : Passes CX X EX)
    (ha : FA D X K R (e :: es) tr P g) (hdb : (x == ("__debug__" : Str)) = false := by decide) (he : starEach (e :: es) X.env = (false, eval e X.env) :: starEach es X.env := by rfl) (hpl : (backTo pos (starEach es X.env)).any (·.1) = false := by rfl) :
    FE D X K R mS (.Call (.Name x p) (e :: es) [] pos) (tCall (spM K XQ P (retS rr) mf) [] EX tr) rr (dCall mf g) := by
  cases ha.hK
  exact ⟨rfl, pe_call F hr hg hm hk hb .nil hx ha.pa hdb he hpl, fun H O F E σ I Q kk =>
  ha.sem H O F E σ I _ ((good_bind kk).mono (fun args _ kk vs H1 e1 r1 => by
    refine ⟨O ++ F, args, by rw [List.append_nil]; exact r1, dom_nil (Dom.same I.dom e1), (I.same e1).tab, (good_nox (R' := fun _ => False) kk).mono (fun d _ kk v H2 F2 e2 _ _ _ r2 => kk v H2 (e1.trans e2) r2.2) fun c kk H2 e2 => kk.elim⟩) fun _ kk => kk)⟩

theorem fn_call (F : FnOk X.prog X.w K X.mg X.base CX k fa fd ps (spM K XQ P (retO oo) mf)) (hr : Room k X.A) (hg : Gl X x) (hm : X.mg x = some (.ref fa)) (hk : PySem.W.keepIn K (.ref fa) = true) (hb : Binds K fd ps []) (hx : Passes CX X EX)
    (ha : FA D X K R (e :: es) tr P g) (hdb : (x == ("__debug__" : Str)) = false := by decide) (he : starEach (e :: es) X.env = (false, eval e X.env) :: starEach es X.env := by rfl) (hpl : (backTo pos (starEach es X.env)).any (·.1) = false := by rfl) :
    FN D X K R (.Call (.Name x p) (e :: es) [] pos) (tCall (spM K XQ P (retO oo) mf) [] EX tr) oo (dCall mf g) := by
  cases ha.hK
  exact ⟨rfl, pe_call F hr hg hm hk hb .nil hx ha.pa hdb he hpl, fun H O F E σ I Q kk =>
  ha.sem H O F E σ I _ ((good_bind kk).mono (fun args _ kk vs H1 e1 r1 => by
    refine ⟨O ++ F, args, by rw [List.append_nil]; exact r1, dom_nil (Dom.same I.dom e1), (I.same e1).tab, (good_nox (R' := fun _ => False) kk).mono (fun d _ kk v H2 F2 e2 n2 nd2 d2 r2 => kk v H2 F2 (e1.trans e2) (fun p hp => e1.free (n2 p hp)) nd2 d2 r2) fun c kk H2 e2 => kk.elim⟩) fun _ kk => kk)⟩

/-- .. whose exceptions leave -/
theorem fe_callX (F : FnOk X.prog X.w K X.mg X.base CX k fa fd ps (spM K XQ P (retS rr) mf)) (hr : Room k X.A) (hg : Gl X x) (hm : X.mg x = some (.ref fa)) (hk : PySem.W.keepIn K (.ref fa) = true) (hb : Binds K fd ps []) (hx : Passes CX X EX)
    (hR : ∀ c H, R c H → XQ EX c H) (ha : FA D X K R (e :: es) tr P g) (hdb : (x == ("__debug__" : Str)) = false := by decide) (he : starEach (e :: es) X.env = (false, eval e X.env) :: starEach es X.env := by rfl) (hpl : (backTo pos (starEach es X.env)).any (·.1) = false := by rfl) :
    FE D X K R mS (.Call (.Name x p) (e :: es) [] pos) (tCall (spM K XQ P (retS rr) mf) [] EX tr) rr (dCallX mf g) := by
  cases ha.hK
  exact ⟨rfl, pe_call F hr hg hm hk hb .nil hx ha.pa hdb he hpl, fun H O F E σ I Q kk =>
  ha.sem H O F E σ I _ ((good_bind kk).mono (fun args _ kk vs H1 e1 r1 => by
    refine ⟨O ++ F, args, by rw [List.append_nil]; exact r1, dom_nil (Dom.same I.dom e1), (I.same e1).tab, kk.mono (fun d _ kk v H2 F2 e2 _ _ _ r2 => kk v H2 (e1.trans e2) r2.2) fun c kk H2 e2 => hR c H2 (kk H2 (e1.trans e2))⟩) fun _ kk => kk)⟩

theorem fn_callX (F : FnOk X.prog X.w K X.mg X.base CX k fa fd ps (spM K XQ P (retO oo) mf)) (hr : Room k X.A) (hg : Gl X x) (hm : X.mg x = some (.ref fa)) (hk : PySem.W.keepIn K (.ref fa) = true) (hb : Binds K fd ps []) (hx : Passes CX X EX)
    (hR : ∀ c H, R c H → XQ EX c H) (ha : FA D X K R (e :: es) tr P g) (hdb : (x == ("__debug__" : Str)) = false := by decide) (he : starEach (e :: es) X.env = (false, eval e X.env) :: starEach es X.env := by rfl) (hpl : (backTo pos (starEach es X.env)).any (·.1) = false := by rfl) :
    FN D X K R (.Call (.Name x p) (e :: es) [] pos) (tCall (spM K XQ P (retO oo) mf) [] EX tr) oo (dCallX mf g) := by
  cases ha.hK
  exact ⟨rfl, pe_call F hr hg hm hk hb .nil hx ha.pa hdb he hpl, fun H O F E σ I Q kk =>
  ha.sem H O F E σ I _ ((good_bind kk).mono (fun args _ kk vs H1 e1 r1 => by
    refine ⟨O ++ F, args, by rw [List.append_nil]; exact r1, dom_nil (Dom.same I.dom e1), (I.same e1).tab, kk.mono (fun d _ kk v H2 F2 e2 n2 nd2 d2 r2 => kk v H2 F2 (e1.trans e2) (fun p hp => e1.free (n2 p hp)) nd2 d2 r2) fun c kk H2 e2 => hR c H2 (kk H2 (e1.trans e2))⟩) fun _ kk => kk)⟩

end
end
end Fx

/-! Fx4: what is walked, targets, comprehensions. -/
namespace Fx
open PySem PySem.Spec L2
variable [Tbs]

/-- the iterator J yields xs, as they are represented in B, while B and C stand -/
def Yld {α : Type} (K : PySem.W.Frag) (J : It) (r : Rp α) (xs : List α) (B C : Hp) : Prop :=
  ∀ H2, Wk B H2 → Wk C H2 → (∀ i a, xs[i]? = some a → J.go i H2 ∧ ∀ x H', J.yld i H2 x H' → H' = H2 ∧ r.rp K B a x) ∧ ∀ i, xs.length ≤ i → J.stop i H2
abbrev Hp0 : Hp := fun _ => none
/-- cm: for a comprehension, where nothing is changed -/
def SemI {ε α : Type} (cm : Bool) (D : EnvD ε) (K : PySem.W.Frag) (R : Str → Hp → Prop) (m : Md) (ti : TI) (r : Rp α) (f : ε → Rs (List α)) : Prop :=
  ∀ (H : Hp) (O F : List Addr) (E : ε) (σ : L2.St), RelF D K H O F E σ → ∀ Q : It → Hp → Prop, Good (f E) (fun xs => xs.length ≤ sizeLine → ∀ J H', Same H H' → Yld K J r xs (hidM m O F H') (if cm then H' else Hp0) → Q J H') (fun c => ∀ H', Same H H' → R c H') → ti σ H Q
structure FI {ε α : Type} (cm : Bool) (D : EnvD ε) (X : Cx) (K : PySem.W.Frag) (R : Str → Hp → Prop) (m : Md) (tg e : Expr) (ti : TI) (r : Rp α) (f : ε → Rs (List α)) : Prop where
  hK : X.K = K
  pi : PI X tg e ti
  sem : SemI cm D K R m ti r f
def SemG {ε ε' α : Type} (D : EnvD ε) (D' : EnvD ε') (K : PySem.W.Frag) (r : Rp α) (m : Md) (g : TG) (st : ε → α → Option ε') (is : List Nat) : Prop :=
  ∀ (H : Hp) (O F : List Addr) (E : ε) (E' : ε') (σ : L2.St) (a : α) (v : V), RelF D K H O F E σ → r.rp K (hidM m O F H) a v → st E a = some E' →
    ∀ Q : L2.St → Hp → Prop, (∀ σ', RelF D' K H O F E' σ' → (∀ j, j ∉ is → σ'[j]? = σ[j]?) → σ'.length = σ.length → Q σ' H) → g v σ H Q
structure FG {ε ε' α : Type} (D : EnvD ε) (D' : EnvD ε') (X : Cx) (K : PySem.W.Frag) (r : Rp α) (m : Md) (tg : Expr) (g : TG) (st : ε → α → Option ε') (is : List Nat) : Prop where
  hK : X.K = K
  pg : PG X tg g
  sem : SemG D D' K r m g st is
def SemGs {ε ε' π : Type} (D : EnvD ε) (D' : EnvD ε') (K : PySem.W.Frag) (P : PD π) (m : Md) (g : TGs) (st : ε → π → Option ε') (is : List Nat) : Prop :=
  ∀ (H : Hp) (O F : List Addr) (E : ε) (E' : ε') (σ : L2.St) (a : π) (vs : List V), RelF D K H O F E σ → P.rel K (hidM m O F H) (hidM m O F H) a vs → st E a = some E' →
    ∀ Q : L2.St → Hp → Prop, (∀ σ', RelF D' K H O F E' σ' → (∀ j, j ∉ is → σ'[j]? = σ[j]?) → σ'.length = σ.length → Q σ' H) → g vs σ H Q
structure FGs {ε ε' π : Type} (D : EnvD ε) (D' : EnvD ε') (X : Cx) (K : PySem.W.Frag) (P : PD π) (m : Md) (ts : List Expr) (g : TGs) (st : ε → π → Option ε') (is : List Nat) : Prop where
  hK : X.K = K
  pg : PGs X ts g
  sem : SemGs D D' K P m g st is
/-- slots that hold no owned thing -/
def Slot.Sh {α : Type} (s : Slot α) : Prop := ∀ {K : PySem.W.Frag} {H : Hp} {O Ft F : List Addr} {x : Option α} {w : Option V}, s.rel K H O Ft x w F → F = []
theorem sh_s {α : Type} {b : Bool} {r : Rp α} : (sS b r).Sh := fun h => h.1

section
variable {cm : Bool} {ε ε' ε1 ε2 α β γ π : Type} {D : EnvD ε} {D' : EnvD ε'} {X : Cx} {K : PySem.W.Frag} {R : Str → Hp → Prop} {m m' ma mb mi : Md} {e a b c tg : Expr} {es : List Expr} {t ta tb tc te : TE} {tr : TA} {r : Rp α} {ra : Rp α} {rb : Rp β} {f : ε → Rs α} {pos : Pos} {P : PD π}

/-! ### what is walked -/
theorem fi_list {rs : Rp (List α)} {g : ε → Rs (List α)} (hc : Cuts rs r) (h : FE D X K R m e te rs g) : FI cm D X K R m tg e (iList K te) r g := by
  cases h.hK
  exact ⟨rfl, pi_list h.pe, fun H O F E σ I Q k =>
  h.sem H O F E σ I _ (k.mono (fun xs _ k v H1 e1 r1 => by
    obtain ⟨p, vs, h1, h2, hz, h3⟩ := hc _ _ _ _ r1
    refine ⟨p, h1, ⟨vs, Wk.seq hidM_low h2⟩, k hz _ H1 e1 fun H2 e2 _ => ⟨fun i a ha => ?_, fun i hi => ⟨vs, e2.seq h2, by rw [← Paired.len h3]; exact hi⟩⟩⟩
    obtain ⟨w, g1, g2⟩ := Paired.get h3 ha
    refine ⟨⟨vs, w, e2.seq h2, g1⟩, fun x H' y => ⟨y.1, ?_⟩⟩
    have := (y.2 vs (e2.seq h2)).symm.trans g1
    cases this
    exact g2) fun _ k => k)⟩

def rng (lo : Int) (n : Nat) : List Int := (List.range n).map fun (i : Nat) => lo + (i : Int)
theorem rng_len (lo : Int) (n : Nat) : (rng lo n).length = n := by unfold rng; rw [List.length_map, List.length_range]
theorem rng_get {lo : Int} {n i : Nat} {a : Int} (h : (rng lo n)[i]? = some a) : i < n ∧ a = lo + (i : Int) := by
  unfold rng at h
  rw [List.getElem?_map] at h
  cases q : (List.range n)[i]? with
  | none => rw [q] at h; cases h
  | some j =>
    rw [q] at h
    by_cases hi : i < n
    · rw [List.getElem?_range hi] at q
      cases q
      cases h
      exact ⟨hi, rfl⟩
    · rw [List.getElem?_eq_none (by rw [List.length_range]; omega)] at q; cases q
def rngOk (lo hi : Int) : Prop := (-(2 ^ 62) ≤ lo ∧ lo < 2 ^ 62 ∧ -(2 ^ 62) ≤ hi ∧ hi < 2 ^ 62) ∧ (hi - lo).toNat ≤ sizeLine
noncomputable def rngF (lo hi : Int) : Option (List Int) := cIf (rngOk lo hi) (some (rng lo (hi - lo).toNat)) none
theorem yld_rng {K : PySem.W.Frag} {lo : Int} {n : Nat} {B C : Hp} : Yld K (Itr lo n) rInt (rng lo n) B C := fun H2 e2 _ => ⟨fun i a ha => by
    obtain ⟨h1, h2⟩ := rng_get ha
    exact ⟨h1, fun x H' y => ⟨y.1, by rw [h2]; exact y.2⟩⟩, fun i hi => by rw [rng_len] at hi; exact hi⟩
theorem fi_rng1 {p : Pos} {g : ε → Rs Int} (hg : Gl X "range") (hm : X.mg "range" = none) (h : FE D X K R ma e te rInt g) (hs : starEach [e] X.env = [(false, eval e X.env)] := by rfl) (he : starEach (e :: []) X.env = (false, eval e X.env) :: starEach [] X.env := by rfl) :
    FI cm D X K R m tg (.Call (.Name "range" p) [e] [] pos) (iRng1 (tCons te tNil)) rInt (d1 (rngF 0) g) := by
  cases h.hK
  exact ⟨rfl, pi_range1 hg hm (pa_cons h.pe pa_nil he) hs, fun H O F E σ I Q k =>
  h.sem H O F E σ I _ ((good_bind k).mono (fun j _ k v H1 e1 r1 => by
    unfold rngF at k
    by_cases c : rngOk 0 j
    · rw [cIf_pos c] at k
      unfold rngOk at c
      have ej : (j - 0).toNat = j.toNat := by rw [Int.sub_zero]
      rw [ej] at k c
      refine ⟨j, by rw [show v = V.int j from r1], c.1.2.2.1, c.1.2.2.2, k (by rw [rng_len]; exact c.2) _ H1 e1 yld_rng⟩
    · rw [cIf_neg c] at k; exact k.elim) fun _ k => k)⟩

theorem fi_rng2 {p : Pos} {g : ε → Rs Int} {h : ε → Rs Int} (hg : Gl X "range") (hm : X.mg "range" = none) (h1 : FE D X K R ma a ta rInt g) (h2 : FE D X K R mb b tb rInt h) (hs : starEach [a, b] X.env = [(false, eval a X.env), (false, eval b X.env)] := by rfl)
    (hs2 : starEach [b] X.env = [(false, eval b X.env)] := by rfl) (he : starEach (a :: [b]) X.env = (false, eval a X.env) :: starEach [b] X.env := by rfl) (he2 : starEach (b :: []) X.env = (false, eval b X.env) :: starEach [] X.env := by rfl) :
    FI cm D X K R m tg (.Call (.Name "range" p) [a, b] [] pos) (iRng2 (tCons ta (tCons tb tNil))) rInt (d2 rngF g h) := by
  cases h1.hK
  exact ⟨rfl, pi_range2 hg hm (pa_cons h1.pe (pa_cons h2.pe pa_nil he2) he) hs hs2, fun H O F E σ I Q k =>
  h1.sem H O F E σ I _ ((good_bind k).mono (fun i _ k v H1 e1 r1 => h2.sem H1 O F E σ (I.same e1) _ ((good_bind k).mono (fun j _ k w H2 e2 r2 => by
    unfold rngF at k
    by_cases c : rngOk i j
    · rw [cIf_pos c] at k
      unfold rngOk at c
      refine ⟨i, j, by rw [show v = V.int i from r1, show w = V.int j from r2], c.1, k (by rw [rng_len]; exact c.2) _ H2 (e1.trans e2) yld_rng⟩
    · rw [cIf_neg c] at k; exact k.elim) fun c k H2 e2 => k H2 (e1.trans e2))) fun _ k => k)⟩

/-! ### targets -/
def stN (p : ε → Option α → ε') : ε → α → Option ε' := fun E a => some (p E (some a))
theorem RelF.put {s : Slot α} {s' : Slot β} {i : Nat} {g : ε → Option α} {p : ε → Option β → ε'} (L : Ln D D' i s s' g p) (hs : s.Sh) {K : PySem.W.Frag} {H : Hp} {O F : List Addr} {E : ε} {σ : L2.St} (I : RelF D K H O F E σ) {x : Option β} {w : Option V} (h : s'.rel K H O F x w []) :
    RelF D' K H O F (p E x) (σ.set i w) := by
  obtain ⟨Fa, F1, Fb, w0, h1, h2, h3, h4⟩ := L.get I.rel
  have e := hs h3
  subst e
  have h5 := h4 H F (Wk.refl _) (Wk.refl _) (fun q _ o z _ => z) x w [] h
  rw [← h1] at h5
  exact ⟨h5, I.nd, I.dj, I.dom, I.tab⟩
theorem fg_name {s : Slot β} {bb : Bool} {i : Nat} {g : ε → Option β} {p : ε → Option α → ε'} {x : Str} (L : Ln D D' i s (sS bb r) g p) (hs : s.Sh) (hN : X.N.Nodup) (hi : X.N[i]? = some x := by rfl) (hx : Loc X.env.scope x := by first | exact .inl rfl | exact .inr rfl)
    (hf : X.fn x = true ∨ X.env.scope.names.lookup x = some .local := by first | exact .inl rfl | exact .inr rfl) (hK : X.K = K := by rfl) : FG D D' X K r (bb, true) (.Name x pos) (gName i) (stN p) [i] := by
  cases hK
  exact ⟨rfl, pg_name hN hi hx hf, fun H O F E E' σ a v I ra e Q q => by
    cases e
    refine q _ (I.put L hs ⟨rfl, fun a' ha => ⟨v, rfl, by cases ha; exact ra⟩⟩) (fun j hj => ?_) (by rw [List.length_set])
    exact List.getElem?_set_ne (fun z => hj (by simp [z]))⟩

theorem fgs_nil (hK : X.K = K := by rfl) : FGs D D X K pNil m [] gNil (fun E _ => some E) [] := by
  cases hK
  exact ⟨rfl, pgs_nil, fun H O F E E' σ a vs I ra e Q q => by
  cases e
  exact ⟨ra, q σ I (fun _ _ => rfl) rfl⟩⟩

def stC {ε1 : Type} (s1 : ε → α → Option ε1) (s2 : ε1 → π → Option ε') : ε → α × π → Option ε' := fun E a => (s1 E a.1).bind fun E1 => s2 E1 a.2
theorem fgs_cons {D1 : EnvD ε1} {g : TG} {gs : TGs} {s1 : ε → α → Option ε1} {s2 : ε1 → π → Option ε'} {i1 i2 : List Nat} {ts : List Expr} (h : FG D D1 X K r m e g s1 i1) (hr : FGs D1 D' X K P m ts gs s2 i2)
    (hs : (assignEach (e :: ts) X.env).map (·.2) = assign e X.env :: (assignEach ts X.env).map (·.2) := by rfl) : FGs D D' X K (pC true r P) m (e :: ts) (gCons g gs) (stC s1 s2) (i1 ++ i2) := by
  cases h.hK
  exact ⟨rfl, pgs_cons h.pg hr.pg hs, fun H O F E E' σ a vs I ra e Q q => by
    obtain ⟨v, us, h1, h2, h3⟩ := ra
    unfold stC at e
    cases e1 : s1 E a.1 with
    | none => rw [e1] at e; cases e
    | some E1 =>
      rw [e1] at e
      have e : s2 E1 a.2 = some E' := e
      refine ⟨v, us, h1, h.sem H O F E E1 σ a.1 v I h2 e1 _ fun σ1 I1 k1 l1 => hr.sem H O F E1 E' σ1 a.2 us I1 h3 e _ fun σ2 I2 k2 l2 => q σ2 I2 (fun j hj => ?_) (l2.trans l1)⟩
      rw [k2 j fun z => hj (List.mem_append_right _ z), k1 j fun z => hj (List.mem_append_left _ z)]⟩

theorem fg_tup {gs : TGs} {st : ε → π → Option ε'} {is : List Nat} {k : Nat} {n : Nat} (hc : X.calm = true) (h : FGs D D' X K P m es gs st is) (hP : ∀ K H H' a vs, P.rel K H H' a vs → vs.length = n)
    (hn : (assignEach es X.env).length = n := by rfl) (hst : (assignEach es X.env).findIdx? (·.1) = none := by rfl) : FG D D' X K (rTup P) m (.Tuple es k pos) (gTup K n gs) st is := by
  cases h.hK
  exact ⟨rfl, pg_tup hc h.pg hn hst, fun H O F E E' σ a v I ra e Q q => by
    obtain ⟨p, vs, h1, h2, h3⟩ := ra
    exact ⟨p, vs, h1, .inl (.inl (hidM_low.get _ _ h2)), hP _ _ _ _ _ h3, h.sem H O F E E' σ a vs I h3 e Q q⟩⟩

/-! ### comprehensions -/
theorem wipe_in {σ : L2.St} {i : Nat} : ∀ {vs : List Nat}, i ∈ vs → (wipe σ vs)[i]? = if i < σ.length then some none else none
  | [], h => by cases h
  | v :: vs, h => by
    unfold wipe
    by_cases e : v = i
    · subst e
      by_cases hl : v < σ.length
      · rw [if_pos hl, List.getElem?_set_self (by rw [wipe_length]; exact hl)]
      · rw [if_neg hl, List.getElem?_eq_none (by rw [List.length_set, wipe_length]; omega)]
    · rw [List.getElem?_set_ne e]
      exact wipe_in ((List.mem_cons.mp h).resolve_left fun z => e z.symm)
theorem wipe_agree {σ σ' : L2.St} {vs : List Nat} (hl : σ'.length = σ.length) (h : ∀ j, j ∉ vs → σ'[j]? = σ[j]?) : wipe σ' vs = wipe σ vs := by
  apply List.ext_getElem?
  intro j
  by_cases hj : j ∈ vs
  · rw [wipe_in hj, wipe_in hj, hl]
  · rw [wipe_out hj, wipe_out hj]
    exact h j hj
/-- the own names of a comprehension forgotten -/
structure Wp (D : EnvD ε) (D' : EnvD ε') (vs : List Nat) (we : ε → ε') : Prop where
  run : ∀ {K : PySem.W.Frag} {H : Hp} {O F : List Addr} {E : ε} {σ : L2.St}, RelF D K H O F E σ → RelF D' K H O F (we E) (wipe σ vs)
theorem wp_nil : Wp D D [] (fun E => E) := ⟨fun h => h⟩
theorem wp_cons {D1 : EnvD ε1} {vs : List Nat} {w1 : ε → ε1} {s : Slot α} {s' : Slot β} {i : Nat} {g : ε1 → Option α} {p : ε1 → Option β → ε'} (L : Ln D1 D' i s s' g p) (hs : s.Sh) (h : Wp D D1 vs w1) : Wp D D' (i :: vs) (fun E => p (w1 E) none) :=
  ⟨fun I => (h.run I).put L hs s'.non⟩
def lcR (step : α → Rs (Option β)) : List α → Rs (List β)
  | [] => .ok []
  | x :: xs => (step x).bind fun o => (lcR step xs).bind fun ys => .ok (match o with | some y => y :: ys | none => ys)
def lcS {ε1 : Type} (st : ε1 → α → Option ε2) (ft : ε2 → Rs Bool) (fe : ε2 → Rs β) (E : ε1) (x : α) : Rs (Option β) :=
  (ofO (st E x)).bind fun E2 => (ft E2).bind fun b => if b = true then (fe E2).bind fun y => .ok (some y) else .ok none
def lcD {ε1 : Type} (fi : ε → Rs (List α)) (we : ε → ε1) (st : ε1 → α → Option ε2) (ft : ε2 → Rs Bool) (fe : ε2 → Rs β) : ε → Rs (List β) := fun E => (fi E).bind fun xs => lcR (lcS st ft fe (we E)) xs
structure FTs (D : EnvD ε) (X : Cx) (K : PySem.W.Frag) (R : Str → Hp → Prop) (ifs : List Expr) (t : TT) (f : ε → Rs Bool) : Prop where
  hK : X.K = K
  pt : PTs X ifs t
  sem : SemT D K R t f
theorem fts_nil (hK : X.K = K := by rfl) : FTs D X K R [] tYes (dC true) := by
  cases hK
  exact ⟨rfl, pts_nil, fun H O F E σ I Q k => k H (Same.refl H)⟩

theorem fts_one {tt : TT} {ft : ε → Rs Bool} (h : FT D X K R e tt ft) : FTs D X K R [e] tt ft := by
  cases h.hK
  exact ⟨rfl, pts_one h.pt, h.sem⟩

theorem hidM_cons {O F : List Addr} {H H1 : Hp} {p : Addr} (hp : H p = none) (e : Same H H1) : Wk (hidM m O F H) (hidM m (p :: O) F H1) := .mk fun q o h nt => by
  obtain ⟨h1, h2⟩ := hid_some h
  have hn : q ≠ p := ne_of_none h2 hp
  unfold hidM
  rw [hid_out]
  · exact e.wk.get q o h2 nt
  · intro z
    apply h1
    obtain ⟨a, b⟩ := m
    cases a <;> cases b <;> simp_all
theorem RelF.more {K : PySem.W.Frag} {H H1 : Hp} {O F : List Addr} {E : ε} {σ : L2.St} {p : Addr} (I : RelF D K H O F E σ) (hp : H p = none) (e : Same H H1) (h1 : ∃ o, H1 p = some o) : RelF D K H1 (p :: O) F E σ := by
  have hF : p ∉ F := fun z => by
    obtain ⟨o, q⟩ := I.dom p (List.mem_append_right _ z)
    rw [hp] at q; cases q
  refine ⟨D.frame I.rel (hidM_cons (m := mS) hp e) (hid_sm e) fun q _ o z nt => e.wk.get q o z nt, I.nd, fun q hq z => ?_, fun q hq => ?_, e.tab I.tab⟩
  · rcases List.mem_cons.mp z with z | z
    · exact hF (z ▸ hq)
    · exact I.dj q hq z
  · rw [List.cons_append] at hq
    rcases List.mem_cons.mp hq with z | z
    · rw [z]; exact h1
    · obtain ⟨o, y⟩ := I.dom q z
      exact e.dom y
theorem hidM_upd {O F : List Addr} {H : Hp} {p : Addr} {o : HO} (hm : m.1 = true) : Wk (hidM m (p :: O) F H) (hidM m (p :: O) F (upd H p o)) := .mk fun q u h _ => by
  obtain ⟨h1, h2⟩ := hid_some h
  have hn : q ≠ p := fun z => h1 (by rw [if_pos hm]; simp [z])
  unfold hidM
  rw [hid_out h1, upd_ne hn]
  exact h2
theorem lc_sem {K : PySem.W.Frag} {D1 : EnvD ε1} {D2 : EnvD ε2} {wi : TI} {g : TG} {tt : TT} {fi : ε → Rs (List α)} {we : ε → ε1} {st : ε1 → α → Option ε2} {ft : ε2 → Rs Bool} {fe : ε2 → Rs β} {vs is : List Nat} (hm : m.1 = true)
    (hi : SemI true D K R mi wi ra fi) (hw : Wp D D1 vs we) (hg : SemG D1 D2 K ra mi g st is) (his : ∀ i ∈ is, i ∈ vs) (ht : SemT D2 K R tt ft) (he : SemE D2 K R m te rb fe) (H : Hp) (O F : List Addr) (E : ε) (σ : L2.St) (I : RelF D K H O F E σ) (Q : VK)
    (k : Good (lcD fi we st ft fe E) (fun ys => ∀ p ws H', Same H H' → H p = none → H' p = some (.lst ws) → ys.length ≤ sizeLine → Paired (rb.rp K (hidM m (p :: O) F H')) ys ws → Q (.ref p) H') (fun c => ∀ H', Same H H' → R c H')) : tLc wi g tt te vs σ H Q := by
  refine hi H O F E σ I _ ((good_bind k).mono (fun xs _ k hz J H1 e1 Y p hp => ?_) fun _ k => k)
  have hp0 : H p = none := e1.free hp
  let Post : List β → Prop := fun ys => ∀ p ws H', Same H H' → H p = none → H' p = some (.lst ws) → ys.length ≤ sizeLine → Paired (rb.rp K (hidM m (p :: O) F H')) ys ws → Q (.ref p) H'
  refine ⟨fun i mm H2 => mm = xs.length - i ∧ i ≤ xs.length ∧ Same H1 H2 ∧ ∃ ys acc, H2 p = some (.lst acc) ∧ Paired (rb.rp K (hidM m (p :: O) F H2)) ys acc ∧ ys.length ≤ i ∧ Good (lcR (lcS st ft fe (we E)) (xs.drop i)) (fun zs => Post (ys ++ zs)) (fun c => ∀ H', Same H H' → R c H'), ⟨xs.length, by simp, Nat.zero_le _, Fx.same_upd hp, [], [], upd_same, .nil, Nat.le_refl _, by simpa using k⟩, ?_⟩
  rintro i mm H2 ⟨rfl, hil, e2, ys, acc, hacc, hpr, hyl, kk⟩
  have eB : Wk (hidM mi O F H1) H2 := Wk.trans hidM_low e2
  by_cases hlt : i < xs.length
  · have hx : xs[i]? = some xs[i] := List.getElem?_eq_getElem hlt
    rw [List.drop_eq_getElem_cons hlt] at kk
    obtain ⟨hgo, hy⟩ := (Y H2 eB e2.wk).1 i _ hx
    refine .inr ⟨hgo, fun H3 => i + 1 ≤ xs.length ∧ Same H1 H3 ∧ ∃ ys acc, H3 p = some (.lst acc) ∧ Paired (rb.rp K (hidM m (p :: O) F H3)) ys acc ∧ ys.length ≤ i + 1 ∧ Good (lcR (lcS st ft fe (we E)) (xs.drop (i + 1))) (fun zs => Post (ys ++ zs)) (fun c => ∀ H', Same H H' → R c H'), fun H3 h3 => ⟨xs.length - (i + 1), by omega, rfl, h3⟩, fun v H3 y => ?_⟩
    obtain ⟨rfl, rv⟩ := hy v H3 y
    have I2 : RelF D K H3 (p :: O) F E σ := I.more hp0 (e1.trans e2) ⟨_, hacc⟩
    have kk := good_bind kk
    unfold lcS at kk
    have kk := good_bind kk
    cases est : st (we E) xs[i] with
    | none => rw [est] at kk; exact kk.elim
    | some E2 =>
      rw [est] at kk
      have kk : Good ((ft E2).bind fun b => if b = true then (fe E2).bind fun y => .ok (some y) else .ok none) _ _ := kk
      refine hg H3 (p :: O) F (we E) E2 _ xs[i] v (hw.run I2) (ra.mono (hidM_cons hp e2) rv) est _ fun σ2 I3 ag hl2 => ⟨?_, ?_⟩
      · refine wipe_agree (by rw [hl2, wipe_length]) fun j hj => ?_
        rw [ag j fun z => hj (his j z), wipe_out hj]
      · refine ht H3 (p :: O) F E2 σ2 I3 _ ((good_bind kk).mono (fun b _ kk H4 e4 => ?_) fun c kk H4 e4 => kk H4 ((e1.trans e2).trans e4))
        have last : ∀ (H5 : Hp) (ys' : List β) (acc' : List V), Same H1 H5 → H5 p = some (.lst acc') → Paired (rb.rp K (hidM m (p :: O) F H5)) ys' acc' → ys'.length ≤ i + 1 →
            Good (lcR (lcS st ft fe (we E)) (xs.drop (i + 1))) (fun zs => Post (ys' ++ zs)) (fun c => ∀ H', Same H H' → R c H') → i + 1 ≤ xs.length ∧ Same H1 H5 ∧ ∃ ys acc, H5 p = some (.lst acc) ∧ Paired (rb.rp K (hidM m (p :: O) F H5)) ys acc ∧ ys.length ≤ i + 1 ∧ Good (lcR (lcS st ft fe (we E)) (xs.drop (i + 1))) (fun zs => Post (ys ++ zs)) (fun c => ∀ H', Same H H' → R c H') :=
          fun H5 ys' acc' q1 q2 q3 q4 q5 => ⟨hlt, q1, ys', acc', q2, q3, q4, q5⟩
        cases b with
        | true =>
          have kk : Good ((fe E2).bind fun y => .ok (some y)) _ _ := kk
          show te σ2 H4 _
          refine he H4 (p :: O) F E2 σ2 (I3.same e4) _ ((good_bind kk).mono (fun y _ kk w H5 e5 rw5 => ?_) fun c kk H5 e5 => kk H5 ((e1.trans e2).trans (e4.trans e5)))
          have e25 := e4.trans e5
          have hacc5 : H5 p = some (.lst acc) := e25.get p _ hacc
          have kk := good_bind (show Good ((lcR (lcS st ft fe (we E)) (xs.drop (i + 1))).bind _) _ _ from kk)
          refine ⟨acc, hacc5, ?_, last _ (ys ++ [y]) _ ?_ upd_same ?_ (by rw [List.length_append]; simp; omega) ?_⟩
          · rw [← Paired.len hpr]
            omega
          · exact (e2.trans e25).upd_new hp hacc5
          · exact Paired.app (Paired.imp hpr fun _ _ => rb.mono (Wk.trans (hidM_sm e25) (hidM_upd hm))) (.cons (rb.mono (hidM_upd hm) rw5) .nil)
          · refine kk.mono (fun zs _ q => ?_) fun _ q => q
            have q : Post (ys ++ (y :: zs)) := q
            rw [List.append_assoc]
            exact q
        | false =>
          have kk := good_bind (show Good ((lcR (lcS st ft fe (we E)) (xs.drop (i + 1))).bind _) _ _ from kk)
          show i + 1 ≤ xs.length ∧ _
          exact last _ ys acc (e2.trans e4) (e4.get p _ hacc) (Paired.imp hpr fun _ _ => rb.mono (hidM_sm e4)) (by omega) (kk.mono (fun zs _ q => q) fun _ q => q)
  · have ei : i = xs.length := by omega
    subst ei
    refine .inl ⟨(Y H2 eB e2.wk).2 _ (Nat.le_refl _), ?_⟩
    rw [List.drop_length] at kk
    have kk : Post (ys ++ []) := kk
    rw [List.append_nil] at kk
    exact kk p acc H2 (e1.trans e2) hp0 hacc (Nat.le_trans hyl hz) hpr
section
variable {D1 : EnvD ε1} {D2 : EnvD ε2} {wi : TI} {g : TG} {tt : TT} {fi : ε → Rs (List α)} {we : ε → ε1} {st : ε1 → α → Option ε2} {ft : ε2 → Rs Bool} {fe : ε2 → Rs β} {is : List Nat} {elt tg iter : Expr} {ifs : List Expr} {scope : Scope} {own : List (Str × Nat)} {spos : Pos}
/-- a comprehension's parts -/
structure Lc (D : EnvD ε) (X : Cx) (K : PySem.W.Frag) (R : Str → Hp → Prop) (m : Md) (elt tg iter : Expr) (ifs : List Expr) (scope : Scope) (own : List (Str × Nat)) (wi : TI) (g : TG) (tt : TT) (te : TE) (rb : Rp β) (f : ε → Rs (List β)) : Prop where
  hK : X.K = K
  hi : PI X tg iter wi
  ok : BlkOk X.N X.env.scope scope own
  hg : ∀ (s : Shared) (H : Hp) (C : Addr) (cl : List (Str × Addr)) (fp : List Addr), PG (X.blk s H scope (compEnvC scope cl C X.env) fp) tg g
  ht : ∀ (s : Shared) (H : Hp) (C : Addr) (cl : List (Str × Addr)) (fp : List Addr), PTs (X.blk s H scope (compEnvC scope cl C X.env) fp) ifs tt
  he : ∀ (s : Shared) (H : Hp) (C : Addr) (cl : List (Str × Addr)) (fp : List Addr), PE (X.blk s H scope (compEnvC scope cl C X.env) fp) elt te
  sem : ∀ (H : Hp) (O F : List Addr) (E : ε) (σ : L2.St), RelF D K H O F E σ → ∀ Q : VK,
    Good (f E) (fun ys => ∀ p ws H', Same H H' → H p = none → H' p = some (.lst ws) → ys.length ≤ sizeLine → Paired (rb.rp K (hidM m (p :: O) F H')) ys ws → Q (.ref p) H') (fun c => ∀ H', Same H H' → R c H') → tLc wi g tt te (own.map (·.2)) σ H Q
theorem lc_mk (hm : m.1 = true) (hi : FI true D X K R mi tg iter wi ra fi) (ok : BlkOk X.N X.env.scope scope own) (hw : Wp D D1 (own.map (·.2)) we) (his : ∀ i ∈ is, i ∈ own.map (·.2))
    (hg : ∀ (s : Shared) (H : Hp) (C : Addr) (cl : List (Str × Addr)) (fp : List Addr), FG D1 D2 (X.blk s H scope (compEnvC scope cl C X.env) fp) K ra mi tg g st is)
    (ht : ∀ (s : Shared) (H : Hp) (C : Addr) (cl : List (Str × Addr)) (fp : List Addr), FTs D2 (X.blk s H scope (compEnvC scope cl C X.env) fp) K R ifs tt ft)
    (he : ∀ (s : Shared) (H : Hp) (C : Addr) (cl : List (Str × Addr)) (fp : List Addr), FE D2 (X.blk s H scope (compEnvC scope cl C X.env) fp) K R m elt te rb fe) : Lc D X K R m elt tg iter ifs scope own wi g tt te rb (lcD fi we st ft fe) := by
  cases hi.hK
  exact ⟨rfl, hi.pi, ok, fun s H C cl fp => (hg s H C cl fp).pg, fun s H C cl fp => (ht s H C cl fp).pt, fun s H C cl fp => (he s H C cl fp).pe,
    lc_sem hm hi.sem hw (hg X.s_0 X.H_0 0 [] []).sem his (ht X.s_0 X.H_0 0 [] []).sem (he X.s_0 X.H_0 0 [] []).sem⟩

theorem fe_lc {f : ε → Rs (List β)} (hc : X.calm = true) (hN : X.N.Nodup) (L : Lc D X K R m elt tg iter ifs scope own wi g tt te rb f) (hs : ∀ x, foldedSetIterable iter X.env x = pure x := by intro _; rfl) :
    FE D X K R m (.ListComp elt [⟨tg, iter, ifs, 0⟩] scope pos) (tLc wi g tt te (own.map (·.2))) (rList rb) f := by
  cases L.hK
  exact ⟨rfl, pe_lc hc hN L.hi L.ok L.hg L.ht L.he hs, fun H O F E σ I Q k => L.sem H O F E σ I Q (k.mono (fun ys _ k p ws H' e1 n1 h1 hz h2 => by
    have hp : p ∉ O ++ F := fun z => by
      obtain ⟨o, q⟩ := I.dom p z
      rw [n1] at q; cases q
    refine k _ H' e1 ⟨p, ws, rfl, ?_, hz, Paired.imp h2 fun _ _ => rb.mono (hid_sub fun q hq => ?_)⟩
    · unfold hidM
      rw [hid_out]
      · exact h1
      · intro z
        apply hp
        obtain ⟨a, b⟩ := m
        cases a <;> cases b <;> simp_all
    · obtain ⟨a, b⟩ := m
      cases a <;> cases b <;> simp_all) fun _ k => k)⟩

theorem fn_lc {f : ε → Rs (List β)} (hc : X.calm = true) (hN : X.N.Nodup) (L : Lc D X K R mS elt tg iter ifs scope own wi g tt te rb f) (hs : ∀ x, foldedSetIterable iter X.env x = pure x := by intro _; rfl) :
    FN D X K R (.ListComp elt [⟨tg, iter, ifs, 0⟩] scope pos) (tLc wi g tt te (own.map (·.2))) (oList rb) f := by
  cases L.hK
  exact ⟨rfl, pe_lc hc hN L.hi L.ok L.hg L.ht L.he hs, fun H O F E σ I Q k => L.sem H O F E σ I Q (k.mono (fun ys _ k p ws H' e1 n1 h1 hz h2 => k _ H' [p] e1 (fun q hq => by
      have : q = p := by simpa using hq
      rw [this]; exact n1) (List.nodup_cons.mpr ⟨by simp, List.nodup_nil⟩) (fun q hq => by
      have : q = p := by simpa using hq
      exact ⟨_, by rw [this]; exact h1⟩) ⟨p, ws, rfl, rfl, h1, hz, Paired.imp h2 fun _ _ => rb.mono (hid_sub fun q hq => by
        show q ∈ (p :: O) ++ F
        simp at hq ⊢
        rcases hq with h | h | h
        · exact .inr (.inl h)
        · exact .inr (.inr h)
        · exact .inl h)⟩) fun _ k => k)⟩

end
end
end Fx

/-! Fx5: statements, defs. -/
namespace Fx
open PySem PySem.Spec L2
variable [Tbs]

inductive Fl (ε ρ : Type) where
  | nx (E : ε) | rt (a : ρ) | bk (E : ε) | ct (E : ε)
/-- what is wanted behind a statement that began at F, H -/
def FlPost {ε ρ : Type} (D : EnvD ε) (K : PySem.W.Frag) (rr : RetD ρ) (O F : List Addr) (H : Hp) (Dn : Ends) : Fl ε ρ → Prop
  | .nx E' => ∀ σ' H' F', Step F H F' H' → RelF D K H' O F' E' σ' → Dn.nx σ' H'
  | .rt a => ∀ v H' F', Stab F H H' → (∀ p ∈ F', p ∈ F ∨ H p = none) → F'.Nodup → (∀ p ∈ F', ∃ u, H' p = some u) → rr.rel K H' O a v F' → Dn.rt v H'
  | .bk E' => ∀ σ' H' F', Step F H F' H' → RelF D K H' O F' E' σ' → Dn.bk σ' H'
  | .ct E' => ∀ σ' H' F', Step F H F' H' → RelF D K H' O F' E' σ' → Dn.ct σ' H'
def SemS {ε ρ : Type} (D : EnvD ε) (K : PySem.W.Frag) (R : Str → Hp → Prop) (rr : RetD ρ) (t : TS) (f : ε → Rs (Fl ε ρ)) : Prop :=
  ∀ (H : Hp) (O F : List Addr) (E : ε) (σ : L2.St), RelF D K H O F E σ → ∀ Dn : Ends, Good (f E) (FlPost D K rr O F H Dn) (fun c => ∀ H', Stab F H H' → R c H') → t Dn σ H
structure FS {ε ρ : Type} (D : EnvD ε) (X : Cx) (K : PySem.W.Frag) (R : Str → Hp → Prop) (rr : RetD ρ) (st : Stmt) (t : TS) (f : ε → Rs (Fl ε ρ)) : Prop where
  hK : X.K = K
  ps : PS X st t
  sem : SemS D K R rr t f
structure FSs {ε ρ : Type} (D : EnvD ε) (X : Cx) (K : PySem.W.Frag) (R : Str → Hp → Prop) (rr : RetD ρ) (st : List Stmt) (t : TS) (f : ε → Rs (Fl ε ρ)) : Prop where
  hK : X.K = K
  ps : PSs X st t
  sem : SemS D K R rr t f
section
variable {ε ε' ρ α β π : Type} {D : EnvD ε} {X : Cx} {K : PySem.W.Frag} {R : Str → Hp → Prop} {rr : RetD ρ} {m m' ma mb : Md} {st : Stmt} {sts : List Stmt} {t u : TS} {f g : ε → Rs (Fl ε ρ)} {te ta : TE} {e a c : Expr} {r : Rp α} {pos pos' : Pos} {P : PD π} {o : Ro α}

theorem Step.stab {F F' : List Addr} {H H1 H2 : Hp} (s : Step F H F' H1) (k : Stab F' H1 H2) : Stab F H H2 := (s.trans (F2 := F') ⟨k, fun p h => .inl h⟩).1
theorem Step.new {F F' F2 : List Addr} {H H1 : Hp} (s : Step F H F' H1) (k : ∀ p ∈ F2, p ∈ F' ∨ H1 p = none) : ∀ p ∈ F2, p ∈ F ∨ H p = none := fun p hp => by
  rcases k p hp with z | z
  · exact s.2 p z
  · exact s.free z
theorem FlPost.step {K : PySem.W.Frag} {O F F1 : List Addr} {H H1 : Hp} {Dn : Ends} (s : Step F H F1 H1) : ∀ {fl : Fl ε ρ}, FlPost D K rr O F H Dn fl → FlPost D K rr O F1 H1 Dn fl
  | .nx E, h => fun σ' H' F' s' I => h σ' H' F' (s.trans s') I
  | .rt a, h => fun v H' F' k n nd d q => h v H' F' (s.stab k) (s.new n) nd d q
  | .bk E, h => fun σ' H' F' s' I => h σ' H' F' (s.trans s') I
  | .ct E, h => fun σ' H' F' s' I => h σ' H' F' (s.trans s') I

/-! ### blocks -/
def dNx : ε → Rs (Fl ε ρ) := fun E => .ok (.nx E)
def dSeq (f g : ε → Rs (Fl ε ρ)) : ε → Rs (Fl ε ρ) := fun E => (f E).bind fun fl => match fl with
  | .nx E1 => g E1
  | .rt a => .ok (.rt a)
  | .bk E1 => .ok (.bk E1)
  | .ct E1 => .ok (.ct E1)
theorem sem_nx {K : PySem.W.Frag} : SemS D K R rr tNext (dNx (ρ := ρ)) := fun H O F E σ I Dn k => k σ H F Step.refl I
theorem fss_nil (hK : X.K = K := by rfl) : FSs D X K R rr [] tNext (dNx (ρ := ρ)) := by
  cases hK
  exact ⟨rfl, pss_nil, sem_nx⟩

theorem fss_one (h : FS D X K R rr st t f) : FSs D X K R rr [st] t f := by
  cases h.hK
  exact ⟨rfl, pss_one h.ps, h.sem⟩

theorem fss_cons (h : FS D X K R rr st t f) (hr : FSs D X K R rr sts u g) : FSs D X K R rr (st :: sts) (tSeq t u) (dSeq f g) := by
  cases h.hK
  exact ⟨rfl, pss_cons h.ps hr.ps, fun H O F E σ I Dn k => h.sem H O F E σ I _ ((good_bind k).mono (fun fl _ k => by
    cases fl with
    | nx E1 => exact fun σ1 H1 F1 s1 I1 => hr.sem H1 O F1 E1 σ1 I1 Dn (Good.mono (show Good (g E1) _ _ from k) (fun fl _ q => q.step s1) fun c q H2 k2 => q H2 (s1.stab k2))
    | rt a => exact k
    | bk E1 => exact k
    | ct E1 => exact k) fun _ k => k)⟩

theorem fs_pass (hK : X.K = K := by rfl) : FS D X K R rr (.Pass pos) tNext (dNx (ρ := ρ)) := by
  cases hK
  exact ⟨rfl, ps_pass, sem_nx⟩

theorem fs_break (hK : X.K = K := by rfl) : FS D X K R rr (.Break pos) tBreak (fun E => .ok (.bk E) : ε → Rs (Fl ε ρ)) := by
  cases hK
  exact ⟨rfl, ps_break, fun H O F E σ I Dn k => k σ H F Step.refl I⟩

theorem fs_continue (hK : X.K = K := by rfl) : FS D X K R rr (.Continue pos) tCont (fun E => .ok (.ct E) : ε → Rs (Fl ε ρ)) := by
  cases hK
  exact ⟨rfl, ps_continue, fun H O F E σ I Dn k => k σ H F Step.refl I⟩

theorem fs_doc {x j} (hK : X.K = K := by rfl) : FS D X K R rr (.Expr (.Constant (.str x) j pos) pos') tNext (dNx (ρ := ρ)) := by
  cases hK
  exact ⟨rfl, ps_doc, sem_nx⟩

/-! ### stores -/
def dSet (p : ε → Option α → ε) (f : ε → Rs α) : ε → Rs (Fl ε ρ) := fun E => (f E).bind fun a => .ok (.nx (p E (some a)))
def dAsg (st : ε → α → Option ε) (f : ε → Rs α) : ε → Rs (Fl ε ρ) := fun E => (f E).bind fun a => (ofO (st E a)).bind fun E1 => .ok (.nx E1)

theorem exS {F : List Addr} {H : Hp} {c : Str} (k : ∀ H', Stab F H H' → R c H') : ∀ H', Same H H' → R c H' := fun H' e => k H' (Stab.of_same e)
theorem sem_set {K : PySem.W.Frag} {bb : Bool} {i : Nat} {gt : ε → Option α} {p : ε → Option α → ε} {f : ε → Rs α} (L : Ln D D i (sS bb r) (sS bb r) gt p) (h : SemE D K R (bb, true) te r f) : SemS D K R rr (tAsg te (gName i)) (dSet (ρ := ρ) p f) := fun H O F E σ I Dn k =>
  h H O F E σ I _ ((good_bind k).mono (fun x _ k v H1 e1 r1 => k _ H1 F (Step.same e1) ((I.same e1).put L sh_s ⟨rfl, fun a ha => ⟨v, rfl, by cases ha; exact r1⟩⟩)) fun c k => exS k)
/-- a slot's thing is changed, exchanged, or given away -/
theorem RelF.slot {ε' α' : Type} {D' : EnvD ε'} {s : Slot α} {s' : Slot α'} {K : PySem.W.Frag} {i : Nat} {gt : ε → Option α} {p : ε → Option α' → ε'} (L : Ln D D' i s s' gt p) {H : Hp} {O F : List Addr} {E : ε} {σ : L2.St} (I : RelF D K H O F E σ) :
    ∃ F1 w, (∀ q ∈ F1, q ∈ F) ∧ F1.Nodup ∧ σ[i]? = some w ∧ s.rel K H O F (gt E) w F1 ∧
      ∀ (H1 : Hp) (F1' : List Addr), Stab F1 H H1 → (∀ q ∈ F1', q ∈ F1 ∨ H q = none) → F1'.Nodup → (∀ q ∈ F1', ∃ o, H1 q = some o) →
        ∃ F2, (F1' = F1 → F2 = F) ∧ (∀ q ∈ F2, q ∈ F1' ∨ (q ∈ F ∧ q ∉ F1)) ∧ (∀ q ∈ F1', q ∈ F2) ∧ Step F H F2 H1 ∧ ∀ x' w', s'.rel K H1 O F2 x' w' F1' → RelF D' K H1 O F2 (p E x') (σ.set i w') := by
  obtain ⟨Fa, F1, Fb, w0, h1, h2, h3, h4⟩ := L.get I.rel
  have n1 := I.nd
  rw [h1, List.append_assoc, List.nodup_append, List.nodup_append] at n1
  have sub1 : ∀ q ∈ F1, q ∈ F := fun q hq => by rw [h1]; simp [hq]
  have ab : ∀ q, q ∈ Fa ∨ q ∈ Fb → q ∈ F ∧ q ∉ F1 := fun q hq => by
    rcases hq with hq | hq
    · exact ⟨by rw [h1]; simp [hq], fun z => n1.2.2 q hq q (List.mem_append_left _ z) rfl⟩
    · exact ⟨by rw [h1]; simp [hq], fun z => n1.2.1.2.2 q z q hq rfl⟩
  refine ⟨F1, w0, sub1, n1.2.1.1, h2, h3, fun H1 F1' keep new nd dm => ?_⟩
  have mem2 : ∀ q ∈ Fa ++ F1' ++ Fb, q ∈ F1' ∨ (q ∈ F ∧ q ∉ F1) := fun q hq => by
    rcases List.mem_append.mp hq with hq | hq
    · rcases List.mem_append.mp hq with hq | hq
      · exact .inr (ab q (.inl hq))
      · exact .inl hq
    · exact .inr (ab q (.inr hq))
  have dj1 : ∀ q, q ∈ F1' → q ∈ F → q ∈ F1 := fun q hq hf => by
    rcases new q hq with z | z
    · exact z
    · obtain ⟨u, y⟩ := I.dom q (List.mem_append_right _ hf)
      rw [z] at y; cases y
  have st : Step F H (Fa ++ F1' ++ Fb) H1 := ⟨keep.sub sub1, fun q hq => by
    rcases mem2 q hq with z | z
    · rcases new q z with y | y
      · exact .inl (sub1 q y)
      · exact .inr y
    · exact .inl z.1⟩
  refine ⟨Fa ++ F1' ++ Fb, fun z => by rw [z, h1], mem2, fun q hq => by simp [hq], st, fun x' w' hs => ⟨h4 H1 _ st.hid st.hid0 (fun q hq o z nt => keep.get q o z (ab q (List.mem_append.mp hq)).2 nt) x' w' F1' hs, ?_, fun q hq => ?_, fun q hq => ?_, keep.tab I.tab⟩⟩
  · rw [List.append_assoc, List.nodup_append, List.nodup_append]
    refine ⟨n1.1, ⟨nd, n1.2.1.2.1, fun a ha b hb z => ?_⟩, fun a ha b hb z => ?_⟩
    · subst z
      have := ab a (.inr hb)
      exact this.2 (dj1 a ha this.1)
    · subst z
      rcases List.mem_append.mp hb with y | y
      · have := ab a (.inl ha)
        exact this.2 (dj1 a y this.1)
      · exact n1.2.2 a ha a (List.mem_append_right _ y) rfl
  · rcases mem2 q hq with z | z
    · rcases new q z with y | y
      · exact I.dj q (sub1 q y)
      · intro x
        obtain ⟨u, v⟩ := I.dom q (List.mem_append_left _ x)
        rw [y] at v; cases v
    · exact I.dj q z.1
  · rcases List.mem_append.mp hq with z | z
    · obtain ⟨u, y⟩ := I.dom q (List.mem_append_left _ z)
      exact keep.dom y fun x => I.dj q (sub1 q x) z
    · rcases mem2 q z with z | z
      · exact dm q z
      · obtain ⟨u, y⟩ := I.dom q (List.mem_append_right _ z.1)
        exact keep.dom y z.2
theorem set_self {σ : L2.St} {i : Nat} {w : Option V} (h : σ[i]? = some w) : σ.set i w = σ := by
  apply List.ext_getElem?
  intro j
  by_cases hj : i = j
  · subst hj
    by_cases hl : i < σ.length
    · rw [List.getElem?_set_self hl, h]
    · rw [List.getElem?_eq_none (by omega)] at h; cases h
  · rw [List.getElem?_set_ne hj]
/-- a slot's owned thing is exchanged for a new one, or changed -/
theorem RelF.own {s : Slot α} {K : PySem.W.Frag} {i : Nat} {gt : ε → Option α} {p : ε → Option α → ε} (L : Ln D D i s s gt p) {H H1 : Hp} {O F F' : List Addr} {E : ε} {σ : L2.St} (I : RelF D K H O F E σ) (e : Same H H1) (hn : ∀ q ∈ F', H q = none) (nd : F'.Nodup) (dm : ∀ q ∈ F', ∃ u, H1 q = some u)
    {x : Option α} {w : Option V} (h : ∀ F2, (∀ q ∈ F2, q ∈ F ∨ q ∈ F') → s.rel K H1 O F2 x w F') : ∃ F2, Step F H F2 H1 ∧ RelF D K H1 O F2 (p E x) (σ.set i w) := by
  obtain ⟨Fa, F1, Fb, w0, h1, h2, h3, h4⟩ := L.get I.rel
  have sub : ∀ q ∈ Fa ++ F' ++ Fb, q ∈ F ∨ q ∈ F' := fun q hq => by
    rw [h1]
    simp at hq ⊢
    rcases hq with z | z | z
    · exact .inl (.inl z)
    · exact .inr z
    · exact .inl (.inr (.inr z))
  have st : Step F H (Fa ++ F' ++ Fb) H1 := ⟨.of_same e, fun q hq => (sub q hq).elim .inl fun z => .inr (hn q z)⟩
  refine ⟨Fa ++ F' ++ Fb, st, h4 H1 _ st.hid st.hid0 (fun q _ o z nt => e.wk.get q o z nt) x w F' (h _ sub), ?_, fun q hq => ?_, fun q hq => ?_, e.tab I.tab⟩
  · have n1 := I.nd
    rw [h1] at n1
    rw [List.append_assoc, List.nodup_append] at n1 ⊢
    rw [List.nodup_append] at n1 ⊢
    have dj : ∀ q ∈ F, q ∉ F' := fun q hq z => by
      obtain ⟨u, y⟩ := I.dom q (List.mem_append_right _ hq)
      rw [hn q z] at y; cases y
    refine ⟨n1.1, ⟨nd, n1.2.1.2.1, fun a ha b hb z => dj b (by rw [h1]; simp [hb]) (z ▸ ha)⟩, fun a ha b hb z => ?_⟩
    rcases List.mem_append.mp hb with y | y
    · exact dj a (by rw [h1]; simp [ha]) (z ▸ y)
    · exact n1.2.2 a ha b (List.mem_append_right _ y) z
  · rcases sub q hq with z | z
    · exact I.dj q z
    · intro y
      obtain ⟨u, x⟩ := I.dom q (List.mem_append_left _ y)
      rw [hn q z] at x; cases x
  · rcases List.mem_append.mp hq with z | z
    · obtain ⟨u, y⟩ := I.dom q (List.mem_append_left _ z)
      exact e.dom y
    · rcases sub q z with z | z
      · obtain ⟨u, y⟩ := I.dom q (List.mem_append_right _ z)
        exact e.dom y
      · exact dm q z
section
variable {i : Nat} {x : Str} {bb : Bool} {gt : ε → Option α} {p : ε → Option α → ε} {f : ε → Rs α}
theorem fs_set (L : Ln D D i (sS bb r) (sS bb r) gt p) (hN : X.N.Nodup) (he : FE D X K R (bb, true) e te r f) (hi : X.N[i]? = some x := by rfl) (hx : Loc X.env.scope x := by first | exact .inl rfl | exact .inr rfl) (hs : swapsWith e (some (.Name x pos')) pos.line X.env = pure false := by rfl)
    (hf : X.fn x = true ∨ X.env.scope.names.lookup x = some .local := by first | exact .inl rfl | exact .inr rfl) : FS D X K R rr (.Assign [.Name x pos'] e pos) (tAsg te (gName i)) (dSet (ρ := ρ) p f) := by
  cases he.hK
  exact ⟨rfl, ps_set hN hi hx he.pe hs hf, sem_set L he.sem⟩

end
theorem fs_asg {tg : Expr} {g : TG} {st : ε → α → Option ε} {is : List Nat} {f : ε → Rs α} (he : FE D X K R m e te r f) (hg : FG D D X K r m tg g st is) (hs : swapsWithSole [tg] e pos.line X.env = pure false := by rfl) (hw : swappedStores [tg] e X.env = pure none := by rfl)
    (h1 : (assignEach [tg] X.env).map (·.2) = [assign tg X.env] := by rfl) : FS D X K R rr (.Assign [tg] e pos) (tAsg te g) (dAsg (ρ := ρ) st f) := by
  cases he.hK
  exact ⟨rfl, ps_asg he.pe hg.pg hs hw h1, fun H O F E σ I Dn k => he.sem H O F E σ I _ ((good_bind k).mono (fun x _ k v H1 e1 r1 => by
    cases es : st E x with
    | none => rw [es] at k; exact k.elim
    | some E1 =>
      rw [es] at k
      exact hg.sem H1 O F E E1 σ x v (I.same e1) r1 es _ fun σ' I' _ _ => k σ' H1 F (Step.same e1) I') fun c k => exS k)⟩

/-- a, b = a list of ints or the like -/
def stL {α ε' : Type} (n : Nat) (st : ε → List α → Option ε') : ε → List α → Option ε' := fun E xs => if xs.length = n then st E xs else none
structure FGl {ε' α : Type} (D : EnvD ε) (D' : EnvD ε') (X : Cx) (K : PySem.W.Frag) (r : Rp α) (m : Md) (ts : List Expr) (g : TGs) (st : ε → List α → Option ε') (is : List Nat) : Prop where
  hK : X.K = K
  pg : PGs X ts g
  sem : ∀ (H : Hp) (O F : List Addr) (E : ε) (E' : ε') (σ : L2.St) (a : List α) (vs : List V), RelF D K H O F E σ → Paired (r.rp K (hidM m O F H)) a vs → st E a = some E' →
    ∀ Q : L2.St → Hp → Prop, (∀ σ', RelF D' K H O F E' σ' → (∀ j, j ∉ is → σ'[j]? = σ[j]?) → σ'.length = σ.length → Q σ' H) → g vs σ H Q
def stLn {α : Type} : ε → List α → Option ε := fun E xs => match xs with
  | [] => some E
  | _ :: _ => none
def stLc {ε1 ε' α : Type} (s1 : ε → α → Option ε1) (s2 : ε1 → List α → Option ε') : ε → List α → Option ε' := fun E xs => match xs with
  | [] => none
  | x :: xs => (s1 E x).bind fun E1 => s2 E1 xs
theorem fgl_nil (hK : X.K = K := by rfl) : FGl D D X K r m [] gNil stLn [] := by
  cases hK
  exact ⟨rfl, pgs_nil, fun H O F E E' σ a vs I ra e Q q => by
  cases a with
  | nil =>
    cases e
    cases ra
    exact ⟨rfl, q σ I (fun _ _ => rfl) rfl⟩
  | cons _ _ => cases e⟩

theorem fgl_cons {ε1 ε' : Type} {D1 : EnvD ε1} {D' : EnvD ε'} {g : TG} {gs : TGs} {s1 : ε → α → Option ε1} {s2 : ε1 → List α → Option ε'} {i1 i2 : List Nat} {ts : List Expr} (h : FG D D1 X K r m e g s1 i1) (hr : FGl D1 D' X K r m ts gs s2 i2)
    (hs : (assignEach (e :: ts) X.env).map (·.2) = assign e X.env :: (assignEach ts X.env).map (·.2) := by rfl) : FGl D D' X K r m (e :: ts) (gCons g gs) (stLc s1 s2) (i1 ++ i2) := by
  cases h.hK
  exact ⟨rfl, pgs_cons h.pg hr.pg hs, fun H O F E E' σ a vs I ra e Q q => by
    cases a with
    | nil => cases e
    | cons x xs =>
      cases ra with
      | cons rx rxs =>
        have e : (s1 E x).bind (fun E1 => s2 E1 xs) = some E' := e
        cases e1 : s1 E x with
        | none => rw [e1] at e; cases e
        | some E1 =>
          rw [e1] at e
          have e : s2 E1 xs = some E' := e
          refine ⟨_, _, rfl, h.sem H O F E E1 σ x _ I rx e1 _ fun σ1 I1 k1 l1 => hr.sem H O F E1 E' σ1 xs _ I1 rxs e _ fun σ2 I2 k2 l2 => q σ2 I2 (fun j hj => ?_) (l2.trans l1)⟩
          rw [k2 j fun z => hj (List.mem_append_right _ z), k1 j fun z => hj (List.mem_append_left _ z)]⟩

theorem fg_lst {ε' : Type} {D' : EnvD ε'} {es : List Expr} {gs : TGs} {st : ε → List α → Option ε'} {is : List Nat} {k n : Nat} (hc : X.calm = true) (h : FGl D D' X K r m es gs st is)
    (hn : (assignEach es X.env).length = n := by rfl) (hst : (assignEach es X.env).findIdx? (·.1) = none := by rfl) : FG D D' X K (rList r) m (.Tuple es k pos) (gUnl K n gs) (stL n st) is := by
  cases h.hK
  exact ⟨rfl, pg_unl hc h.pg hn hst, fun H O F E E' σ a v I ra e Q q => by
    obtain ⟨p, vs, h1, h2, hz, h3⟩ := ra
    unfold stL at e
    by_cases c : a.length = n
    · rw [if_pos c] at e
      exact ⟨p, vs, h1, .inl (.inl (hidM_low.get _ _ h2)), by rw [← Paired.len h3]; exact c, h.sem H O F E E' σ a vs I h3 e Q q⟩
    · rw [if_neg c] at e; cases e⟩

/-- n += e -/
def dAug (h : Int → Int → Int) (gt : ε → Option Int) (p : ε → Option Int → ε) (f : ε → Rs Int) : ε → Rs (Fl ε ρ) := fun E => (ofO (gt E)).bind fun x => (f E).bind fun y => .ok (.nx (p E (some (h x y))))
theorem fs_aug {i : Nat} {x : Str} {bb : Bool} {op : Operator} {h : Int → Int → Int} {gt : ε → Option Int} {p : ε → Option Int → ε} {f : ε → Rs Int} (L : Ln D D i (sS bb rInt) (sS bb rInt) gt p) (hN : X.N.Nodup) (he : FE D X K R m e te rInt f) (ho : PIp X op (ipI h)) (hi : X.N[i]? = some x := by rfl)
    (hx : Loc X.env.scope x := by first | exact .inl rfl | exact .inr rfl) (hf : X.fn x = true ∨ X.env.scope.names.lookup x = some .local := by first | exact .inl rfl | exact .inr rfl) : FS D X K R rr (.AugAssign (.Name x pos') op e pos) (tAug i te (ipI h)) (dAug (ρ := ρ) h gt p f) := by
  cases he.hK
  exact ⟨rfl, ps_aug hN hi hx he.pe ho hf, fun H O F E σ I Dn k => by
    obtain ⟨F1, w, _, h2, h3⟩ := L.at I
    have k := good_bind k
    cases eg : gt E with
    | none => rw [eg] at k; exact k.elim
    | some a =>
      rw [eg] at k h3
      obtain ⟨v, e1, e2⟩ := h3.2 a rfl
      subst e1
      have k := good_bind (show Good ((f E).bind _) _ _ from k)
      refine ⟨v, h2, he.sem H O F E σ I _ (k.mono (fun y _ k u H1 e1 r1 => ⟨a, y, e2, r1, k _ H1 F (Step.same e1) ((I.same e1).put L sh_s ⟨rfl, fun b hb => ⟨_, rfl, by cases hb; rfl⟩⟩)⟩) fun c k => exS k)⟩⟩

/-! ### owned lists changed in place -/
theorem RelF.mut {s : Slot α} {K : PySem.W.Frag} {i : Nat} {gt : ε → Option α} {p : ε → Option α → ε} (L : Ln D D i s s gt p) {H : Hp} {O F : List Addr} {E : ε} {σ : L2.St} (I : RelF D K H O F E σ) :
    ∃ F1 w, (∀ q ∈ F1, q ∈ F) ∧ F1.Nodup ∧ σ[i]? = some w ∧ s.rel K H O F (gt E) w F1 ∧ ∀ (H1 : Hp), Stab F1 H H1 → (∀ q ∈ F1, ∃ o, H1 q = some o) →
      ∀ x, s.rel K H1 O F x w F1 → Step F H F H1 ∧ RelF D K H1 O F (p E x) σ := by
  obtain ⟨Fa, F1, Fb, w, h1, h2, h3, h4⟩ := L.get I.rel
  have sub : ∀ q ∈ F1, q ∈ F := fun q hq => by rw [h1]; simp [hq]
  have nd := I.nd
  rw [h1, List.append_assoc, List.nodup_append, List.nodup_append] at nd
  refine ⟨F1, w, sub, nd.2.1.1, h2, h3, fun H1 k d x h => ?_⟩
  have st : Step F H F H1 := ⟨k.sub sub, fun q hq => .inl hq⟩
  refine ⟨st, ?_, I.nd, I.dj, fun q hq => ?_, k.tab I.tab⟩
  · have := h4 H1 F st.hid st.hid0 (fun q hq o z nt => k.get q o z (fun y => ?_) nt) x w F1 h
    · rw [← h1] at this
      have e : σ.set i w = σ := by
        apply List.ext_getElem?
        intro j
        by_cases hj : i = j
        · subst hj
          by_cases hl : i < σ.length
          · rw [List.getElem?_set_self hl, h2]
          · rw [List.getElem?_eq_none (by omega)] at h2; cases h2
        · rw [List.getElem?_set_ne hj]
      rw [e] at this
      exact this
    · rcases List.mem_append.mp hq with z' | z'
      · exact nd.2.2 q z' q (List.mem_append_left _ y) rfl
      · exact nd.2.1.2.2 q y q z' rfl
  · by_cases hf : q ∈ F1
    · exact d q hf
    · obtain ⟨o, z⟩ := I.dom q hq
      exact k.dom z hf
/-- an owned list, however it is held -/
structure OLb (bo : Bool) (D : EnvD ε) (i : Nat) (r : Rp α) (gt : ε → Option (List α)) (pt : ε → Option (List α) → ε) : Prop where
  lst : ∀ {K : PySem.W.Frag} {H : Hp} {O F : List Addr} {E : ε} {σ : L2.St}, RelF D K H O F E σ → ∀ {xs : List α}, gt E = some xs → ∃ q vs, σ[i]? = some (some (.ref q)) ∧ H q = some (.lst vs) ∧ xs.length ≤ sizeLine ∧ q ∈ F ∧ Paired (r.rp K (hid (O ++ F) H)) xs vs ∧
    ∀ ys ws, ys.length ≤ sizeLine → Paired (r.rp K (hid (O ++ F) H)) ys ws → Step F H F (upd H q (.lst ws)) ∧ RelF D K (upd H q (.lst ws)) O F (pt E (some ys)) σ
  new : bo = true → ∀ {K : PySem.W.Frag} {H H1 : Hp} {O F F' : List Addr} {E : ε} {σ : L2.St} {xs : List α} {v : V}, RelF D K H O F E σ → Same H H1 → (∀ q ∈ F', H q = none) → F'.Nodup → (∀ q ∈ F', ∃ u, H1 q = some u) → (oList r).rp K H1 (hid (O ++ F ++ F') H1) xs v F' →
    ∃ F2, Step F H F2 H1 ∧ RelF D K H1 O F2 (pt E (some xs)) (σ.set i (some v))
abbrev OL (D : EnvD ε) (i : Nat) (r : Rp α) (gt : ε → Option (List α)) (pt : ε → Option (List α) → ε) : Prop := OLb true D i r gt pt
theorem hid_upd_in {O F : List Addr} {H : Hp} {q : Addr} {u : HO} (hq : q ∈ F) : Wk (hid (O ++ F) H) (hid (O ++ F) (upd H q u)) := .mk fun a o z _ => by
  obtain ⟨z1, z2⟩ := hid_some z
  rw [hid_out z1, upd_ne (fun y => z1 (by rw [y]; exact List.mem_append_right _ hq))]
  exact z2
/-- one whose slot's relation is the owned list's -/
theorem ol_of {s : Slot β} {i : Nat} {g0 : ε → Option β} {p0 : ε → Option β → ε} (L : Ln D D i s s g0 p0) (inj : List α → β)
    (h1 : ∀ {K : PySem.W.Frag} {H : Hp} {O Ft F : List Addr} {x : List α} {w : Option V}, s.rel K H O Ft (some (inj x)) w F → ∃ v, w = some v ∧ (oList r).rp K H (hid (O ++ Ft) H) x v F)
    (h2 : ∀ {K : PySem.W.Frag} {H : Hp} {O Ft F : List Addr} {x : List α} {v : V}, (oList r).rp K H (hid (O ++ Ft) H) x v F → s.rel K H O Ft (some (inj x)) (some v) F)
    {gt : ε → Option (List α)} {pt : ε → Option (List α) → ε} (hg : ∀ E xs, gt E = some xs → g0 E = some (inj xs)) (hp : ∀ E xs, pt E (some xs) = p0 E (some (inj xs))) : OL D i r gt pt := by
  refine ⟨fun {K H O F E σ} I {xs} hx => ?_, fun _ {K H H1 O F F' E σ xs v} I e hn nd dm hv => ?_⟩
  · obtain ⟨F1, w, sub, nd1, hw, hs, cl⟩ := RelF.slot L I
    rw [hg E xs hx] at hs
    obtain ⟨v, rfl, q, vs, e2, e3, e4, e5, e6⟩ := h1 hs
    subst e2 e3
    have hq : q ∈ F := sub q (by simp)
    refine ⟨q, vs, hw, e4, e5, hq, e6, fun ys ws hl hpr => ?_⟩
    obtain ⟨F2, eqF, m2, m1, st, fin⟩ := cl (upd H q (.lst ws)) [q] (stab_upd e4) (fun a ha => .inl ha) nd1 (fun a ha => by
      have : a = q := by simpa using ha
      rw [this]; exact ⟨_, upd_same⟩)
    have e := eqF rfl
    subst e
    have r2 := fin (some (inj ys)) (some (.ref q)) (h2 ⟨q, ws, rfl, rfl, upd_same, hl, Paired.imp hpr fun _ _ => r.mono (hid_upd_in hq)⟩)
    rw [set_self hw, ← hp] at r2
    exact ⟨st, r2⟩
  · obtain ⟨F1, w, sub, nd1, hw, hs, cl⟩ := RelF.slot L I
    obtain ⟨F2, eqF, m2, m1, st, fin⟩ := cl H1 F' (.of_same e) (fun q hq => .inr (hn q hq)) nd dm
    refine ⟨F2, st, ?_⟩
    rw [hp]
    refine fin _ _ (h2 ((oList r).frame hv (hid_sub fun q hq => ?_) fun _ _ _ z _ => z))
    rcases List.mem_append.mp hq with z | z
    · simp [z]
    · rcases m2 q z with z | z
      · simp [z]
      · simp [z.1]
theorem ol_o {i : Nat} {gt : ε → Option (List α)} {p : ε → Option (List α) → ε} (L0 : Ln D D i (sO (oList r)) (sO (oList r)) gt p) : OL D i r gt p :=
  ol_of L0 id (fun h => h.2 _ rfl) (fun h => ⟨(fun z => nomatch z), fun a ha => ⟨_, rfl, by cases ha; exact h⟩⟩) (fun _ _ h => h) (fun _ _ => rfl)
/-- a list that is owned (true) till it is given away (false) -/
def sX {α : Type} (r : Rp α) : Slot (Bool × List α) where
  rel := fun K H O Ft x w F => match x with
    | none => F = []
    | some (true, xs) => ∃ v, w = some v ∧ (oList r).rp K H (hid (O ++ Ft) H) xs v F
    | some (false, xs) => F = [] ∧ ∃ v, w = some v ∧ (rList r).rp K (hid (O ++ Ft) H) xs v
  frame := fun {K H H' O O' Ft Ft' F x w} h e1 e2 k => by
    match x, h with
    | none, h => exact h
    | some (true, xs), h =>
      obtain ⟨v, q1, q2⟩ := h
      exact ⟨v, q1, (oList r).frame q2 e1 k⟩
    | some (false, xs), h =>
      obtain ⟨h0, v, q1, q2⟩ := h
      exact ⟨h0, v, q1, (rList r).mono e1 q2⟩
  non := rfl
def xO (g : ε → Option (Bool × List α)) : ε → Option (List α) := fun E => match g E with
  | some (true, xs) => some xs
  | _ => none
def xA (g : ε → Option (Bool × List α)) : ε → Option (List α) := fun E => (g E).map (·.2)
def xF (g : ε → Option (Bool × List α)) : ε → Option (List α) := fun E => match g E with
  | some (false, xs) => some xs
  | _ => none
def xP (p : ε → Option (Bool × List α) → ε) : ε → Option (List α) → ε := fun E x => p E (x.map fun xs => (true, xs))
/-- given away -/
def xZ (g : ε → Option (Bool × List α)) (p : ε → Option (Bool × List α) → ε) : ε → ε := fun E => p E ((g E).map fun a => (false, a.2))
theorem ol_x {i : Nat} {g : ε → Option (Bool × List α)} {p : ε → Option (Bool × List α) → ε} (L : Ln D D i (sX r) (sX r) g p) : OL D i r (xO g) (xP p) :=
  ol_of L (fun xs => (true, xs)) (fun h => h) (fun h => ⟨_, rfl, h⟩) (fun E xs h => by
    unfold xO at h
    split at h
    · rename_i e; cases h; exact e
    · cases h) (fun _ _ => rfl)
theorem xZ_ok {K : PySem.W.Frag} {i : Nat} {g : ε → Option (Bool × List α)} {p : ε → Option (Bool × List α) → ε} (L : Ln D D i (sX r) (sX r) g p) {H : Hp} {O F : List Addr} {E : ε} {σ : L2.St} (I : RelF D K H O F E σ) : ∃ F2, Step F H F2 H ∧ RelF D K H O F2 (xZ g p E) σ := by
  obtain ⟨F1, w, sub, nd1, hw, hs, cl⟩ := RelF.slot L I
  obtain ⟨F2, eqF, m2, m1, st, fin⟩ := cl H [] (.of_same (Same.refl H)) (fun q hq => nomatch hq) List.nodup_nil (fun q hq => nomatch hq)
  refine ⟨F2, st, ?_⟩
  have r2 := fin ((g E).map fun a => (false, a.2)) w (by
    match g E, hs with
    | none, h => rfl
    | some (true, xs), h =>
      obtain ⟨v, q1, q, vs, e2, e3, e4, e5, e6⟩ := h
      subst e3
      refine ⟨rfl, v, q1, q, vs, e2, ?_, e5, Paired.imp e6 fun _ _ => r.mono (hid_sub fun a ha => ?_)⟩
      · rw [hid_out]
        · exact e4
        · intro z
          rcases List.mem_append.mp z with z | z
          · exact I.dj q (sub q (by simp)) z
          · rcases m2 q z with z | z
            · cases z
            · exact z.2 (by simp)
      · rcases List.mem_append.mp ha with z | z
        · exact List.mem_append_left _ z
        · rcases m2 a z with z | z
          · cases z
          · exact List.mem_append_right _ z.1
    | some (false, xs), h =>
      obtain ⟨h0, v, q1, q2⟩ := h
      exact ⟨rfl, v, q1, (rList r).mono (hid_sub fun a ha => by
        rcases List.mem_append.mp ha with z | z
        · exact List.mem_append_left _ z
        · rcases m2 a z with z | z
          · cases z
          · exact List.mem_append_right _ z.1) q2⟩)
  rw [set_self hw] at r2
  exact r2
/-- a statement behind a list's giving away -/
theorem fs_frz {t : TS} {f : ε → Rs (Fl ε ρ)} {i : Nat} {g : ε → Option (Bool × List α)} {p : ε → Option (Bool × List α) → ε} (L : Ln D D i (sX r) (sX r) g p) (h : FS D X K R rr st t f) : FS D X K R rr st t (fun E => f (xZ g p E)) :=
  ⟨h.hK, h.ps, fun H O F E σ I Dn k => by
    obtain ⟨F2, s2, I2⟩ := xZ_ok L I
    exact h.sem H O F2 _ σ I2 Dn (k.mono (fun fl _ q => q.step s2) fun c q H' k' => q H' (s2.stab k'))⟩
/-- an owned list read -/
theorem fe_ownL {i : Nat} {x : Str} {gt : ε → Option (List α)} {p : ε → Option (List α) → ε} {bo : Bool} (L : OLb bo D i r gt p) (hN : X.N[i]? = some x := by rfl) (hv : Vis X.env.scope x := by first | exact Or.inl rfl | exact Or.inr (Or.inl rfl) | exact Or.inr (Or.inr rfl))
    (hd : (x == ("__debug__" : Str)) = false := by decide) (hcd : (x == ("__classdict__" : Str)) = false := by decide) (hK : X.K = K := by rfl) : FE D X K R mF (.Name x pos) (tVar i) (rList r) (dV gt) := by
  cases hK
  refine ⟨rfl, pe_var hN hv hd hcd, fun H O F E σ I Q k => ?_⟩
  unfold dV at k
  cases eg : gt E with
  | none => rw [eg] at k; exact k.elim
  | some xs =>
    rw [eg] at k
    obtain ⟨q, vs, y0, y1, y2, y3, y4, _⟩ := L.lst I eg
    refine ⟨.ref q, y0, k _ H (Same.refl H) ⟨q, vs, rfl, ?_, y2, Paired.imp y4 fun _ _ => r.mono hidM_top⟩⟩
    unfold hidM
    rw [hid_out (by simpa using I.dj q y3)]
    exact y1
/-- .. owned or given away -/
theorem fe_ownX {i : Nat} {x : Str} {g : ε → Option (Bool × List α)} {p : ε → Option (Bool × List α) → ε} (L : Ln D D i (sX r) (sX r) g p) (hN : X.N[i]? = some x := by rfl) (hv : Vis X.env.scope x := by first | exact Or.inl rfl | exact Or.inr (Or.inl rfl) | exact Or.inr (Or.inr rfl))
    (hd : (x == ("__debug__" : Str)) = false := by decide) (hcd : (x == ("__classdict__" : Str)) = false := by decide) (hK : X.K = K := by rfl) : FE D X K R mF (.Name x pos) (tVar i) (rList r) (dV (xA g)) := by
  cases hK
  refine ⟨rfl, pe_var hN hv hd hcd, fun H O F E σ I Q k => ?_⟩
  obtain ⟨F1, w, sub, nd1, hw, hs, _⟩ := RelF.slot L I
  unfold dV xA at k
  match eg : g E, hs with
  | none, _ => rw [eg] at k; exact k.elim
  | some (true, xs), h =>
    rw [eg] at k
    have eg2 : xO g E = some xs := by unfold xO; rw [eg]
    obtain ⟨q, vs, y0, y1, y2, y3, y4, _⟩ := (ol_x L).lst I eg2
    refine ⟨.ref q, y0, k _ H (Same.refl H) ⟨q, vs, rfl, ?_, y2, Paired.imp y4 fun _ _ => r.mono hidM_top⟩⟩
    unfold hidM
    rw [hid_out (by simpa using I.dj q y3)]
    exact y1
  | some (false, xs), h =>
    rw [eg] at k
    obtain ⟨h0, v, q1, q2⟩ := h
    subst q1
    exact ⟨v, hw, k v H (Same.refl H) ((rList r).mono hidM_top q2)⟩
/-- .. given away -/
theorem fe_frzX {i : Nat} {x : Str} {g : ε → Option (Bool × List α)} {p : ε → Option (Bool × List α) → ε} (L : Ln D D i (sX r) (sX r) g p) (hN : X.N[i]? = some x := by rfl) (hv : Vis X.env.scope x := by first | exact Or.inl rfl | exact Or.inr (Or.inl rfl) | exact Or.inr (Or.inr rfl))
    (hd : (x == ("__debug__" : Str)) = false := by decide) (hcd : (x == ("__classdict__" : Str)) = false := by decide) (hK : X.K = K := by rfl) : FE D X K R mS (.Name x pos) (tVar i) (rList r) (dV (xF g)) := by
  cases hK
  refine ⟨rfl, pe_var hN hv hd hcd, fun H O F E σ I Q k => ?_⟩
  obtain ⟨F1, w, sub, nd1, hw, hs, _⟩ := RelF.slot L I
  unfold dV xF at k
  match eg : g E, hs with
  | none, _ => rw [eg] at k; exact k.elim
  | some (true, xs), h => rw [eg] at k; exact k.elim
  | some (false, xs), h =>
    rw [eg] at k
    obtain ⟨h0, v, q1, q2⟩ := h
    subst q1
    exact ⟨v, hw, k v H (Same.refl H) q2⟩
theorem sem_setO {K : PySem.W.Frag} {i : Nat} {gt : ε → Option (List α)} {p : ε → Option (List α) → ε} {f : ε → Rs (List α)} (L : OL D i r gt p)
    (h : ∀ (H : Hp) (O F : List Addr) (E : ε) (σ : L2.St), RelF D K H O F E σ → ∀ Q : VK, Good (f E) (fun a => ∀ v H' F', Same H H' → (∀ p ∈ F', H p = none) → F'.Nodup → (∀ p ∈ F', ∃ u, H' p = some u) → (oList r).rp K H' (hid (O ++ F ++ F') H') a v F' → Q v H') (fun c => ∀ H', Same H H' → R c H') → te σ H Q) :
    SemS D K R rr (tAsg te (gName i)) (dSet (ρ := ρ) p f) := fun H O F E σ I Dn k =>
  h H O F E σ I _ ((good_bind k).mono (fun x _ k v H1 F1 e1 n1 nd d1 r1 => by
    obtain ⟨F2, s2, I2⟩ := L.new rfl I e1 n1 nd d1 r1
    exact k _ H1 F2 s2 I2) fun c k => exS k)
theorem fs_setO {i : Nat} {x : Str} {gt : ε → Option (List α)} {p : ε → Option (List α) → ε} {f : ε → Rs (List α)} (L : OL D i r gt p) (hN : X.N.Nodup) (he : FN D X K R e te (oList r) f) (hi : X.N[i]? = some x := by rfl) (hx : Loc X.env.scope x := by first | exact .inl rfl | exact .inr rfl) (hs : swapsWith e (some (.Name x pos')) pos.line X.env = pure false := by rfl)
    (hf : X.fn x = true ∨ X.env.scope.names.lookup x = some .local := by first | exact .inl rfl | exact .inr rfl) : FS D X K R rr (.Assign [.Name x pos'] e pos) (tAsg te (gName i)) (dSet (ρ := ρ) p f) := by
  cases he.hK
  exact ⟨rfl, ps_set hN hi hx he.pe hs hf, sem_setO L he.sem⟩
noncomputable def dApp (gt : ε → Option (List α)) (p : ε → Option (List α) → ε) (f : ε → Rs α) : ε → Rs (Fl ε ρ) := fun E => (ofO (gt E)).bind fun xs => (f E).bind fun a => cIf (xs.length < sizeLine) (.ok (.nx (p E (some (xs ++ [a]))))) .bad
theorem fs_append {i : Nat} {x : Str} {gt : ε → Option (List α)} {p : ε → Option (List α) → ε} {f : ε → Rs α} {px : Pos} {apos cpos : Pos} {bo : Bool} (L : OLb bo D i r gt p) (he : FE D X K R mS e te r f) (hi : X.N[i]? = some x := by rfl)
    (hv : Vis X.env.scope x := by first | exact Or.inl rfl | exact Or.inr (Or.inl rfl) | exact Or.inr (Or.inr rfl)) (hd : (x == ("__debug__" : Str)) = false := by decide) (hcd : (x == ("__classdict__" : Str)) = false := by decide)
    (hbase : attributeBase (.Name x px) "append" X.env (eval (.Name x px) X.env) = eval (.Name x px) X.env := by rfl)
    (hfew : ((backTo cpos (starEach (e :: []) X.env)).all (fun x => !x.1) && (backToKw cpos (keywordEach [] X.env)).all (fun x => x.1.isSome)
      && decide ((e :: []).length + ([] : List Keyword).length + (if ([] : List Keyword).isEmpty then 0 else 1) < 30)) = true := by rfl)
    (hline : (apos.endLine == cpos.line) = true := by rfl) (hs : starEach (e :: []) X.env = (false, eval e X.env) :: starEach [] X.env := by rfl) (hplain : (backTo cpos (starEach [] X.env)).any (·.1) = false := by rfl)
    (hsw : swapsWith (.Call (.Attribute (.Name x px) "append" apos) [e] [] cpos) none pos.line X.env = pure false := by rfl) :
    FS D X K R rr (.Expr (.Call (.Attribute (.Name x px) "append" apos) [e] [] cpos) pos) (tDrop (tBM K "list" rAppend (tVar i) (tCons te tNil))) (dApp (ρ := ρ) gt p f) := by
  cases he.hK
  exact ⟨rfl, ps_expr (pe_bm PySem.F.plainAttrs_list PySem.F.slot_list_append PySem.F.type_list_append mt_append (pe_var hi hv hd hcd) (pa_cons he.pe pa_nil hs) hbase hfew hline hs hplain) hsw, fun H O F E σ I Dn k => by
    have k := good_bind k
    cases eg : gt E with
    | none => rw [eg] at k; exact k.elim
    | some xs =>
      rw [eg] at k
      have k := good_bind (show Good ((f E).bind _) _ _ from k)
      obtain ⟨q0, vs0, z0, z1, _⟩ := L.lst I eg
      refine ⟨.ref q0, z0, .inl ⟨rfl, _, .inl (.inl z1)⟩, he.sem H O F E σ I _ (k.mono (fun a _ k v H1 e1 r1 => ?_) fun c k => exS k)⟩
      have I1 := I.same e1
      obtain ⟨q, vs, y0, y1, y2, y3, y4, y5⟩ := L.lst I1 eg
      rw [z0] at y0
      cases y0
      by_cases c : xs.length < sizeLine
      · rw [cIf_pos c] at k
        obtain ⟨s2, I2⟩ := y5 (xs ++ [a]) (vs ++ [v]) (by rw [List.length_append]; exact c) (Paired.app y4 (.cons r1 .nil))
        exact ⟨q0, vs, v, rfl, rfl, y1, by rw [← Paired.len y4]; exact c, k _ _ F ((Step.same e1).trans s2) I2⟩
      · rw [cIf_neg c] at k; exact k.elim⟩

def dSetI (gt : ε → Option (List α)) (p : ε → Option (List α) → ε) (fi : ε → Rs Int) (f : ε → Rs α) : ε → Rs (Fl ε ρ) := fun E => (f E).bind fun a => (ofO (gt E)).bind fun xs => (fi E).bind fun k => (ofO (ixN xs.length k)).bind fun j => .ok (.nx (p E (some (xs.set j a))))
theorem fs_setI {i : Nat} {x : Str} {gt : ε → Option (List α)} {p : ε → Option (List α) → ε} {f : ε → Rs α} {fi : ε → Rs Int} {ti : TE} {ix : Expr} {px tpos : Pos} {bo : Bool} (L : OLb bo D i r gt p) (he : FE D X K R mS e te r f) (hx : FE D X K R m ix ti rInt fi) (hi : X.N[i]? = some x := by rfl)
    (hv : Vis X.env.scope x := by first | exact Or.inl rfl | exact Or.inr (Or.inl rfl) | exact Or.inr (Or.inr rfl)) (hd : (x == ("__debug__" : Str)) = false := by decide) (hcd : (x == ("__classdict__" : Str)) = false := by decide)
    (ha : ∀ v, assign (.Subscript (.Name x px) ix tpos) X.env v = (do
      let ov ← holding [v] (eval (.Name x px) X.env)
      let iv ← holding [v, ov] (eval ix X.env)
      standAt tpos
      holding [v, ov, iv] (setItem ov iv v)
      release [v, ov, iv] []) := by intro _; rfl)
    (hs : swapsWithSole [.Subscript (.Name x px) ix tpos] e pos.line X.env = pure false := by rfl) (hw : swappedStores [.Subscript (.Name x px) ix tpos] e X.env = pure none := by rfl)
    (h1 : (assignEach [.Subscript (.Name x px) ix tpos] X.env).map (·.2) = [assign (.Subscript (.Name x px) ix tpos) X.env] := by rfl) :
    FS D X K R rr (.Assign [.Subscript (.Name x px) ix tpos] e pos) (tAsg te (gSub (tVar i) ti rSetL)) (dSetI (ρ := ρ) gt p fi f) := by
  cases he.hK
  exact ⟨rfl, ps_asg he.pe (pg_sub (pe_var hi hv hd hcd) hx.pe set_list ha) hs hw h1, fun H O F E σ I Dn k => he.sem H O F E σ I _ ((good_bind k).mono (fun a _ k v H1 e1 r1 => by
    have k := good_bind k
    have I1 := I.same e1
    cases eg : gt E with
    | none => rw [eg] at k; exact k.elim
    | some xs =>
      rw [eg] at k
      have k := good_bind (show Good ((fi E).bind _) _ _ from k)
      obtain ⟨q0, vs0, z0, z1, _⟩ := L.lst I1 eg
      refine ⟨.ref q0, z0, hx.sem H1 O F E σ I1 _ (k.mono (fun kk _ k w H2 e2 r2 => ?_) fun c k H2 e2 => exS k H2 (e1.trans e2))⟩
      obtain ⟨q, vs, y0, y1, y2, y3, y4, y5⟩ := L.lst (I1.same e2) eg
      rw [z0] at y0
      cases y0
      cases ej : ixN xs.length kk with
      | none => rw [ej] at k; exact k.elim
      | some j =>
        rw [ej] at k
        obtain ⟨s2, I2⟩ := y5 (xs.set j a) (vs.set j v) (by rw [List.length_set]; exact y2) (Paired.st (r.mono (hidM_sm e2) r1) j y4)
        exact ⟨q0, vs, kk, j, rfl, r2, y1, by rw [← Paired.len y4]; exact ej, k _ _ F ((Step.same (e1.trans e2)).trans s2) I2⟩) fun c k => exS k)⟩

noncomputable def dIns (gt : ε → Option (List α)) (p : ε → Option (List α) → ε) (fi : ε → Rs Int) (f : ε → Rs α) : ε → Rs (Fl ε ρ) := fun E => (ofO (gt E)).bind fun xs => (fi E).bind fun k => (f E).bind fun a =>
  cIf (xs.length < sizeLine ∧ 0 ≤ k ∧ k < 2 ^ 63) (.ok (.nx (p E (some (xs.take k.toNat ++ [a] ++ xs.drop k.toNat))))) .bad
def qIns : V → List V → Hp → VK → Prop := fun x vs H Q => ∃ (l : Addr) (xs : List V) (i : Int) (y : V), x = .ref l ∧ vs = [.int i, y] ∧ H l = some (.lst xs) ∧ xs.length < sizeLine ∧ 0 ≤ i ∧ i < 2 ^ 63 ∧ Q .non (upd H l (.lst (xs.take i.toNat ++ [y] ++ xs.drop i.toNat)))
theorem fs_insert {i : Nat} {x : Str} {gt : ε → Option (List α)} {p : ε → Option (List α) → ε} {f : ε → Rs α} {fi : ε → Rs Int} {ti : TE} {ix : Expr} {px : Pos} {apos cpos : Pos} {bo : Bool} (L : OLb bo D i r gt p) (hx : FE D X K R m ix ti rInt fi) (he : FE D X K R mS e te r f) (hi : X.N[i]? = some x := by rfl)
    (hv : Vis X.env.scope x := by first | exact Or.inl rfl | exact Or.inr (Or.inl rfl) | exact Or.inr (Or.inr rfl)) (hd : (x == ("__debug__" : Str)) = false := by decide) (hcd : (x == ("__classdict__" : Str)) = false := by decide)
    (hbase : attributeBase (.Name x px) "insert" X.env (eval (.Name x px) X.env) = eval (.Name x px) X.env := by rfl)
    (hfew : ((backTo cpos (starEach (ix :: [e]) X.env)).all (fun x => !x.1) && (backToKw cpos (keywordEach [] X.env)).all (fun x => x.1.isSome)
      && decide ((ix :: [e]).length + ([] : List Keyword).length + (if ([] : List Keyword).isEmpty then 0 else 1) < 30)) = true := by rfl)
    (hline : (apos.endLine == cpos.line) = true := by rfl) (hs : starEach (ix :: [e]) X.env = (false, eval ix X.env) :: starEach [e] X.env := by rfl) (hs2 : starEach (e :: []) X.env = (false, eval e X.env) :: starEach [] X.env := by rfl) (hplain : (backTo cpos (starEach [e] X.env)).any (·.1) = false := by rfl)
    (hsw : swapsWith (.Call (.Attribute (.Name x px) "insert" apos) [ix, e] [] cpos) none pos.line X.env = pure false := by rfl) :
    FS D X K R rr (.Expr (.Call (.Attribute (.Name x px) "insert" apos) [ix, e] [] cpos) pos) (tDrop (tBM K "list" qIns (tVar i) (tCons ti (tCons te tNil)))) (dIns (ρ := ρ) gt p fi f) := by
  cases hx.hK
  exact ⟨rfl, ps_expr (pe_bm PySem.F.plainAttrs_list PySem.F.slot_list_insert PySem.F.type_list_insert mt_insert (pe_var hi hv hd hcd) (pa_cons hx.pe (pa_cons he.pe pa_nil hs2) hs) hbase hfew hline hs hplain) hsw, fun H O F E σ I Dn k => by
    have k := good_bind k
    cases eg : gt E with
    | none => rw [eg] at k; exact k.elim
    | some xs =>
      rw [eg] at k
      have k := good_bind (show Good ((fi E).bind _) _ _ from k)
      obtain ⟨q0, vs0, z0, z1, _⟩ := L.lst I eg
      refine ⟨.ref q0, z0, .inl ⟨rfl, _, .inl (.inl z1)⟩, hx.sem H O F E σ I _ (k.mono (fun kk _ k w H1 e1 r1 => he.sem H1 O F E σ (I.same e1) _ ((good_bind k).mono (fun a _ k v H2 e2 r2 => ?_) fun c k H2 e2 => exS k H2 (e1.trans e2))) fun c k => exS k)⟩
      have e12 := e1.trans e2
      obtain ⟨q, vs, y0, y1, y2, y3, y4, y5⟩ := L.lst (I.same e12) eg
      rw [z0] at y0
      cases y0
      by_cases c : xs.length < sizeLine ∧ 0 ≤ kk ∧ kk < 2 ^ 63
      · rw [cIf_pos c] at k
        obtain ⟨s2, I2⟩ := y5 (xs.take kk.toNat ++ [a] ++ xs.drop kk.toNat) (vs.take kk.toNat ++ [v] ++ vs.drop kk.toNat) (by
          have := c.1
          rw [List.length_append, List.length_append, List.length_take, List.length_drop]
          simp only [List.length_cons, List.length_nil]
          omega) (Paired.app (Paired.app (Paired.tk _ y4) (.cons r2 .nil)) (Paired.dp _ y4))
        exact ⟨q0, vs, kk, v, rfl, by rw [show w = V.int kk from r1], y1, by rw [← Paired.len y4]; exact c.1, c.2.1, c.2.2, k _ _ F ((Step.same e12).trans s2) I2⟩
      · rw [cIf_neg c] at k; exact k.elim⟩

/-! ### if, for, while, return -/
theorem wk0 {H : Hp} : Wk Hp0 H := ⟨fun _ _ z _ => nomatch z⟩
def dIte (c : ε → Rs Bool) (f g : ε → Rs (Fl ε ρ)) : ε → Rs (Fl ε ρ) := fun E => (c E).bind fun b => if b = true then f E else g E
theorem fs_if {tc : TT} {fc : ε → Rs Bool} {b1 b2 : List Stmt} (hc : FT D X K R c tc fc) (h1 : FSs D X K R rr b1 t f) (h2 : FSs D X K R rr b2 u g) : FS D X K R rr (.If c b1 b2 pos) (tIfS tc t u) (dIte fc f g) := by
  cases hc.hK
  exact ⟨rfl, ps_if hc.pt h1.ps h2.ps, fun H O F E σ I Dn k => hc.sem H O F E σ I _ ((good_bind k).mono (fun d _ k H1 e1 => by
    cases d with
    | true => exact h1.sem H1 O F E σ (I.same e1) Dn (Good.mono (show Good (f E) _ _ from k) (fun fl _ q => q.step (Step.same e1)) fun c q H2 k2 => q H2 ((Step.same e1).stab k2))
    | false => exact h2.sem H1 O F E σ (I.same e1) Dn (Good.mono (show Good (g E) _ _ from k) (fun fl _ q => q.step (Step.same e1)) fun c q H2 k2 => q H2 ((Step.same e1).stab k2))) fun _ k => exS k)⟩

theorem fs_ret {f : ε → Rs ρ} {r : Rp ρ} (h : FE D X K R mF e te r f) : FS D X K R (retS r) (.Return (some e) pos) (tRet te) (fun E => (f E).bind fun a => .ok (.rt a) : ε → Rs (Fl ε ρ)) := by
  cases h.hK
  exact ⟨rfl, ps_ret h.pe, fun H O F E σ I Dn k => h.sem H O F E σ I _ ((good_bind k).mono (fun a _ k v H1 e1 r1 => k v H1 [] (Stab.of_same e1) (fun p hp => by cases hp) List.nodup_nil (fun p hp => by cases hp) ⟨rfl, r.mono (hid_sub fun q hq => by simpa using hq) r1⟩) fun c k => exS k)⟩

theorem fs_retN {f : ε → Rs ρ} {o : Ro ρ} (h : FN D X K R e te o f) : FS D X K R (retO o) (.Return (some e) pos) (tRet te) (fun E => (f E).bind fun a => .ok (.rt a) : ε → Rs (Fl ε ρ)) := by
  cases h.hK
  exact ⟨rfl, ps_ret h.pe, fun H O F E σ I Dn k => h.sem H O F E σ I _ ((good_bind k).mono (fun a _ k v H1 F1 e1 n1 nd d1 r1 => k v H1 F1 (Stab.of_same e1) (fun p hp => .inr (n1 p hp)) nd d1 (o.frame r1 (hid_sub fun q hq => by
    rcases List.mem_append.mp hq with z | z <;> simp [z]) fun _ _ _ z _ => z)) fun c k => exS k)⟩

theorem fs_retV {i : Nat} {x : Str} {r : Rp α} {gt : ε → Option (List α)} {p : ε → Option (List α) → ε} {px : Pos} (L : OL D i r gt p) (hN : X.N[i]? = some x := by rfl) (hv : Vis X.env.scope x := by first | exact Or.inl rfl | exact Or.inr (Or.inl rfl) | exact Or.inr (Or.inr rfl))
    (hd : (x == ("__debug__" : Str)) = false := by decide) (hcd : (x == ("__classdict__" : Str)) = false := by decide) (hK : X.K = K := by rfl) : FS D X K R (retO (oList r)) (.Return (some (.Name x px)) pos) (tRet (tVar i)) (fun E => (ofO (gt E)).bind fun a => .ok (.rt a) : ε → Rs (Fl ε (List α))) := by
  cases hK
  refine ⟨rfl, ps_ret (pe_var hN hv hd hcd), fun H O F E σ I Dn k => ?_⟩
  have k := good_bind k
  cases eg : gt E with
  | none => rw [eg] at k; exact k.elim
  | some a =>
    rw [eg] at k
    obtain ⟨q, vs, y0, y1, y2, y3, y4, _⟩ := L.lst I eg
    exact ⟨.ref q, y0, k _ H [q] (Stab.of_same (Same.refl H)) (fun a ha => .inl (by simpa using (List.mem_singleton.mp ha) ▸ y3)) (List.nodup_cons.mpr ⟨by simp, List.nodup_nil⟩) (fun a ha => ⟨.lst vs, by rw [List.mem_singleton.mp ha]; exact y1⟩) ⟨q, vs, rfl, rfl, y1, y2, Paired.imp y4 fun _ _ => r.mono (hid_sub fun a ha => by
      rcases List.mem_append.mp ha with z | z
      · exact List.mem_append_left _ z
      · exact List.mem_append_right _ ((List.mem_singleton.mp z) ▸ y3))⟩⟩
def forR (st : ε → α → Option ε) (body : ε → Rs (Fl ε ρ)) : List α → ε → Rs (Fl ε ρ)
  | [], E => .ok (.nx E)
  | x :: xs, E => (ofO (st E x)).bind fun E1 => (body E1).bind fun fl => match fl with
    | .nx E2 => forR st body xs E2
    | .ct E2 => forR st body xs E2
    | .bk E2 => .ok (.nx E2)
    | .rt a => .ok (.rt a)
def dFor (fi : ε → Rs (List α)) (st : ε → α → Option ε) (body : ε → Rs (Fl ε ρ)) : ε → Rs (Fl ε ρ) := fun E => (fi E).bind fun xs => forR st body xs E
theorem fs_for {bb : Bool} {tg iter : Expr} {body : List Stmt} {wi : TI} {g : TG} {tb : TS} {fi : ε → Rs (List α)} {st : ε → α → Option ε} {fb : ε → Rs (Fl ε ρ)} {is : List Nat} (hp : PassesOwn (model X.prog X.w) X.A X.env X.xe) (hc : X.calm = true) (hi : FI false D X K R (bb, true) tg iter wi r fi) (hg : FG D D X K r (bb, true) tg g st is)
    (hb : FSs D X K R rr body tb fb) (hs : ∀ x, foldedSetIterable iter X.env x = pure x := by intro _; rfl) : FS D X K R rr (.For tg iter body [] pos) (tFor wi g tb) (dFor fi st fb) := by
  cases hi.hK
  exact ⟨rfl, ps_for hp hc hi.pi hg.pg hb.ps hs, fun H O F E σ I Dn k => hi.sem H O F E σ I _ ((good_bind k).mono (fun xs _ k hz J H1 e1 Y => by
    refine ⟨fun i mm σ2 H2 => mm = xs.length - i ∧ i ≤ xs.length ∧ ∃ F2 E2, Step F H1 F2 H2 ∧ RelF D X.K H2 O F2 E2 σ2 ∧ Good (forR st fb (xs.drop i) E2) (FlPost D X.K rr O F2 H2 Dn) (fun c => ∀ H', Stab F2 H2 H' → R c H'), ⟨xs.length, by simp, Nat.zero_le _, F, E, Step.refl, I.same e1, ?_⟩, ?_⟩
    · rw [List.drop_zero]
      exact Good.mono (show Good (forR st fb xs E) _ _ from k) (fun fl _ q => q.step (Step.same e1)) fun c q H2 k2 => q H2 ((Step.same e1).stab k2)
    · rintro i mm σ2 H2 ⟨rfl, hil, F2, E2, s2, I2, kk⟩
      have eB : Wk (hidM (bb, true) O F H1) (hidM (bb, true) O F2 H2) := by
        cases bb with
        | true => exact s2.hid
        | false => exact s2.hid0
      have eB2 : Wk (hidM (bb, true) O F H1) H2 := eB.trans hidM_low
      by_cases hlt : i < xs.length
      · have hx : xs[i]? = some xs[i] := List.getElem?_eq_getElem hlt
        rw [List.drop_eq_getElem_cons hlt] at kk
        obtain ⟨hgo, hy⟩ := (Y H2 eB2 wk0).1 i _ hx
        refine .inr ⟨hgo, fun σ3 H3 => i + 1 ≤ xs.length ∧ ∃ F3 E3, Step F H1 F3 H3 ∧ RelF D X.K H3 O F3 E3 σ3 ∧ Good (forR st fb (xs.drop (i + 1)) E3) (FlPost D X.K rr O F3 H3 Dn) (fun c => ∀ H', Stab F3 H3 H' → R c H'), fun σ3 H3 h3 => ⟨xs.length - (i + 1), by omega, rfl, h3⟩, fun v H3 y => ?_⟩
        obtain ⟨rfl, rv⟩ := hy v H3 y
        have kk := good_bind kk
        cases est : st E2 xs[i] with
        | none => rw [est] at kk; exact kk.elim
        | some E3 =>
          rw [est] at kk
          have kk := good_bind (show Good ((fb E3).bind _) _ _ from kk)
          refine hg.sem H3 O F2 E2 E3 σ2 xs[i] v I2 (r.mono eB rv) est _ fun σ4 I4 _ _ => ?_
          refine hb.sem H3 O F2 E3 σ4 I4 _ (kk.mono (fun fl _ q => ?_) fun c q => q)
          cases fl with
          | nx E5 => exact fun σ5 H5 F5 s5 I5 => ⟨hlt, F5, E5, s2.trans s5, I5, Good.mono (show Good (forR st fb (xs.drop (i + 1)) E5) _ _ from q) (fun fl _ q => q.step s5) fun c q H6 k6 => q H6 (s5.stab k6)⟩
          | ct E5 => exact fun σ5 H5 F5 s5 I5 => ⟨hlt, F5, E5, s2.trans s5, I5, Good.mono (show Good (forR st fb (xs.drop (i + 1)) E5) _ _ from q) (fun fl _ q => q.step s5) fun c q H6 k6 => q H6 (s5.stab k6)⟩
          | bk E5 => exact fun σ5 H5 F5 s5 I5 => q σ5 H5 F5 s5 I5
          | rt a => exact q
      · have ei : i = xs.length := by omega
        subst ei
        rw [List.drop_length] at kk
        exact .inl ⟨(Y H2 eB2 wk0).2 _ (Nat.le_refl _), kk σ2 H2 F2 Step.refl I2⟩) fun c k => exS k)⟩

def whileF (c : ε → Rs Bool) (body : ε → Rs (Fl ε ρ)) : Nat → ε → Rs (Fl ε ρ)
  | 0, _ => .bad
  | n + 1, E => (c E).bind fun b => if b = true then (body E).bind fun fl => match fl with
      | .nx E2 => whileF c body n E2
      | .ct E2 => whileF c body n E2
      | .bk E2 => .ok (.nx E2)
      | .rt a => .ok (.rt a)
    else .ok (.nx E)
open Classical in
noncomputable def dWhile (c : ε → Rs Bool) (body : ε → Rs (Fl ε ρ)) : ε → Rs (Fl ε ρ) := fun E => if h : ∃ n, whileF c body n E ≠ .bad then whileF c body (Classical.choose h) E else .bad
theorem whileF_more {c : ε → Rs Bool} {body : ε → Rs (Fl ε ρ)} : ∀ (n k : Nat) (E : ε), whileF c body n E ≠ .bad → whileF c body (n + k) E = whileF c body n E
  | 0, k, E, h => absurd rfl h
  | n + 1, k, E, h => by
    rw [show n + 1 + k = (n + k) + 1 by omega]
    unfold whileF at h ⊢
    cases hc : c E with
    | ok b =>
      rw [hc] at h
      cases b with
      | true =>
        cases hb : body E with
        | ok fl =>
          rw [hb] at h
          cases fl with
          | nx E2 => exact whileF_more n k E2 h
          | ct E2 => exact whileF_more n k E2 h
          | bk E2 => rfl
          | rt a => rfl
        | exc c => rfl
        | bad => rfl
      | false => rfl
    | exc c => rfl
    | bad => rfl
theorem dWhile_eq {c : ε → Rs Bool} {body : ε → Rs (Fl ε ρ)} {E : ε} {x : Rs (Fl ε ρ)} (n : Nat) (h : whileF c body n E = x) (hx : x ≠ .bad) : dWhile c body E = x := by
  have ex : ∃ n, whileF c body n E ≠ .bad := ⟨n, by rw [h]; exact hx⟩
  unfold dWhile
  rw [dif_pos ex]
  have h2 := Classical.choose_spec ex
  have a := whileF_more (Classical.choose ex) n E h2
  have b := whileF_more n (Classical.choose ex) E (by rw [h]; exact hx)
  rw [← a, Nat.add_comm, b, h]
theorem fs_while {tc : TT} {fc : ε → Rs Bool} {body : List Stmt} {tb : TS} {fb : ε → Rs (Fl ε ρ)} (hp : PassesOwn (model X.prog X.w) X.A X.env X.xe) (hc : FT D X K R c tc fc) (hb : FSs D X K R rr body tb fb) : FS D X K R rr (.While c body [] pos) (tWhile tc tb) (dWhile fc fb) := by
  cases hc.hK
  exact ⟨rfl, ps_while hp hc.pt hb.ps, fun H O F E σ I Dn k => by
    unfold dWhile at k
    split at k
    · rename_i ex
      refine ⟨fun n σ2 H2 => ∃ F2 E2, Step F H F2 H2 ∧ RelF D X.K H2 O F2 E2 σ2 ∧ Good (whileF fc fb n E2) (FlPost D X.K rr O F2 H2 Dn) (fun c => ∀ H', Stab F2 H2 H' → R c H'), ⟨Classical.choose ex, F, E, Step.refl, I, k⟩, ?_⟩
      rintro n σ2 H2 ⟨F2, E2, s2, I2, kk⟩
      cases n with
      | zero => exact kk.elim
      | succ n =>
        have kk := good_bind (show Good ((fc E2).bind _) _ _ from kk)
        refine hc.sem H2 O F2 E2 σ2 I2 _ (kk.mono (fun b _ q H3 e3 => ?_) fun c q => exS q)
        have s3 : Step F2 H2 F2 H3 := Step.same e3
        have I3 := I2.same e3
        cases b with
        | true =>
          have q := good_bind (show Good ((fb E2).bind _) _ _ from q)
          show ∃ N, _
          refine ⟨fun σ4 H4 => ∃ F4 E4, Step F H F4 H4 ∧ RelF D X.K H4 O F4 E4 σ4 ∧ Good (whileF fc fb n E4) (FlPost D X.K rr O F4 H4 Dn) (fun c => ∀ H', Stab F4 H4 H' → R c H'), fun σ4 H4 h4 => ⟨n, Nat.lt_succ_self n, h4⟩, ?_⟩
          refine hb.sem H3 O F2 E2 σ2 I3 _ (q.mono (fun fl _ q => ?_) fun c q H5 k5 => q H5 (s3.stab k5))
          cases fl with
          | nx E5 => exact fun σ5 H5 F5 s5 I5 => ⟨F5, E5, s2.trans (s3.trans s5), I5, Good.mono (show Good (whileF fc fb n E5) _ _ from q) (fun fl _ q => q.step (s3.trans s5)) fun c q H6 k6 => q H6 ((s3.trans s5).stab k6)⟩
          | ct E5 => exact fun σ5 H5 F5 s5 I5 => ⟨F5, E5, s2.trans (s3.trans s5), I5, Good.mono (show Good (whileF fc fb n E5) _ _ from q) (fun fl _ q => q.step (s3.trans s5)) fun c q H6 k6 => q H6 ((s3.trans s5).stab k6)⟩
          | bk E5 => exact fun σ5 H5 F5 s5 I5 => (show FlPost D X.K rr O F2 H2 Dn (.nx E5) from q) σ5 H5 F5 (s3.trans s5) I5
          | rt a => exact FlPost.step s3 (show FlPost D X.K rr O F2 H2 Dn (.rt a) from q)
        | false => exact (show FlPost D X.K rr O F2 H2 Dn (.nx E2) from q) σ2 H3 F2 s3 I3
    · exact k.elim⟩

end

/-! ### defs -/
section
variable {ε ρ π : Type}
def runB (f : ε → Rs (Fl ε ρ)) (E : ε) : Rs ρ := (f E).bind fun fl => match fl with
  | .rt a => .ok a
  | _ => .bad
/-- the slots at the entry -/
structure StartR (P : PD π) (D : EnvD ε) (n : Nat) (e0 : π → ε) : Prop where
  run : ∀ {K : PySem.W.Frag} {H : Hp} {O : List Addr} {a : π} {vs : List V}, P.rel K (hid O H) H a vs → D.rel K H O [] (e0 a) (vs.map some ++ List.replicate n none) []
theorem st_nil : StartR pNil eNil 0 (fun _ => ()) := ⟨fun h => by cases h; exact ⟨rfl, rfl⟩⟩
theorem st_none {α : Type} {s : Slot α} {D : EnvD ε} {n : Nat} {e0 : Unit → ε} (h : StartR pNil D n e0) : StartR pNil (eC s D) (n + 1) (fun a => (none, e0 a)) := ⟨fun {K H O a vs} q => by
  have e : vs = [] := q
  subst e
  exact ⟨none, _, [], [], rfl, rfl, s.non, h.run (vs := []) rfl⟩⟩
theorem st_consS {α : Type} {r : Rp α} {P : PD π} {D : EnvD ε} {n : Nat} {e0 : π → ε} (h : StartR P D n e0) : StartR (pC true r P) (eC (sS true r) D) n (fun a => (some a.1, e0 a.2)) := ⟨fun {K H O a vs} ⟨v, us, h1, h2, h3⟩ => by
  subst h1
  exact ⟨some v, _, [], [], rfl, rfl, ⟨rfl, fun a ha => ⟨v, rfl, by cases ha; exact r.mono (hid_sub fun q hq => by simpa using hq) h2⟩⟩, h.run h3⟩⟩
theorem st_consB {α : Type} {r : Rp α} {P : PD π} {D : EnvD ε} {n : Nat} {e0 : π → ε} (h : StartR P D n e0) : StartR (pC false r P) (eC (sS false r) D) n (fun a => (some a.1, e0 a.2)) := ⟨fun {K H O a vs} ⟨v, us, h1, h2, h3⟩ => by
  subst h1
  exact ⟨some v, _, [], [], rfl, rfl, ⟨rfl, fun a ha => ⟨v, rfl, by
    cases ha
    have : hidM (false, true) O [] H = H := by
      show hid ([] ++ []) H = H
      rw [List.append_nil, hid_nil]
    rw [this]; exact h2⟩⟩, h.run h3⟩⟩
theorem plen_nil {K : PySem.W.Frag} {H H' : Hp} {a : Unit} {vs : List V} (h : pNil.rel K H H' a vs) : vs.length = 0 := by rw [show vs = [] from h]; rfl
theorem plen_cons {α : Type} {b : Bool} {r : Rp α} {P : PD π} {n : Nat} (h : ∀ K H H' a vs, P.rel K H H' a vs → vs.length = n) : ∀ K H H' a vs, (pC b r P).rel K H H' a vs → vs.length = n + 1 := fun K H H' a vs ⟨v, us, h1, h2, h3⟩ => by
  rw [h1, List.length_cons, h _ _ _ _ _ h3]
variable {Pg : Program} {w : World} {K : PySem.W.Frag} {mg : Str → Option Value} {base : Heap}
abbrev R0 : Str → Hp → Prop := fun _ _ => False
theorem fn_ok {x qual : Str} {st : Stmt} {f : Addr} {fd : FuncData} {N ps : List Str} {k n : Nat} {P : PD π} {D : EnvD ε} {rr : RetD ρ} {e0 : π → ε} {bf : ε → Rs (Fl ε ρ)} (F : Fun K x qual st f fd) (S : FnScope N ps (defScope st)) (hst : StartR P D n e0)
    (hlen : ∀ K H H' a vs, P.rel K H H' a vs → vs.length = ps.length) (hn : N.length = ps.length + n)
    (hb : ∀ (cdv : Value) (A : Around) (outer : List Env) (s : Shared) (H : Hp) (E : XK), Room k (A.deeper (PyProof.Rows.envOfC qual (defScope st) s.heap.objs.size f cdv)) →
      ∃ t, FSs D (cxOf CX0 Pg w K mg base N qual (defScope st) f cdv A outer s H E).nox K R0 rr (defBody st) t bf) :
    FnOk Pg w K mg base CX0 (k + 1) f fd ps (spM K x0 P rr fun a => runB bf (e0 a)) := by
  refine F.ok S (fun vs H Q E h => ?_) (fun cdv A outer s H vs Q E hr h => ?_)
  · obtain ⟨O, args, h1, _⟩ := h
    exact hlen _ _ _ _ _ h1
  · obtain ⟨O, args, h1, h2, hT, h3⟩ := h
    obtain ⟨t, ht⟩ := hb cdv A outer s H E hr
    refine ⟨t, ht.ps, ht.sem H O [] (e0 args) _ ?_ _ ((good_bind h3).mono (fun fl _ q => ?_) fun c q => ?_)⟩
    · have hl := hlen _ _ _ _ _ h1
      have e : L2.start N vs = vs.map some ++ List.replicate n none := by
        unfold L2.start
        rw [hn, hl, Nat.add_sub_cancel_left]
      rw [e]
      exact ⟨hst.run h1, List.nodup_nil, (fun p hp => nomatch hp), h2, hT⟩
    · cases fl with
      | nx E => exact q.elim
      | bk E => exact q.elim
      | ct E => exact q.elim
      | rt a =>
        have q : ∀ v H' F', Same H H' → (∀ p ∈ F', H p = none) → F'.Nodup → (∀ p ∈ F', ∃ u, H' p = some u) → rr.rel K H' O a v F' → Q v H' := q
        exact fun v H' F' k n nd d rl => q v H' F' (Step.of_nil (F' := []) ⟨k, fun p hp => nomatch hp⟩) (fun p hp => (n p hp).resolve_left (by simp)) nd d rl
    · exact (q _ (Same.refl H)).elim
end
end Fx

/-! Fx6: more rules. -/
namespace Fx
open PySem PySem.Spec L2
variable [Tbs]
section
variable {ε ε' ρ α β γ π : Type} {D : EnvD ε} {X : Cx} {K : PySem.W.Frag} {R : Str → Hp → Prop} {rr : RetD ρ} {m m' ma mb : Md} {st : Stmt} {sts : List Stmt} {te ta tb : TE} {e a b c : Expr} {r : Rp α} {ra : Rp α} {rb : Rp β} {rc : Rp γ} {pos pos' : Pos} {P : PD π} {o : Ro α}

/-! ### names set to a comprehension -/
section
variable {wi : TI} {g : TG} {tt : TT} {f : ε → Rs (List β)} {elt tg iter : Expr} {ifs : List Expr} {scope : Scope} {own : List (Str × Nat)} {i : Nat} {y : Str} {py spos : Pos} {gt : ε → Option (List β)} {p : ε → Option (List β) → ε}
theorem fs_setLc (L : Ln D D i (sS true (rList rb)) (sS true (rList rb)) gt p) (hc : X.calm = true) (hN : X.N.Nodup) (Lcc : Lc D X K R mS elt tg iter ifs scope own wi g tt te rb f)
    (hsw : swapsWith (.ListComp elt [⟨tg, iter, ifs, 0⟩] scope pos) (some (.Name y py)) spos.line X.env = pure true) (hy : X.N[i]? = some y := by rfl) (hyl : X.env.scope.names.lookup y = some .local := by rfl) (hs : ∀ x, foldedSetIterable iter X.env x = pure x := by intro _; rfl) :
    FS D X K R rr (.Assign [.Name y py] (.ListComp elt [⟨tg, iter, ifs, 0⟩] scope pos) spos) (tAsg (tLc wi g tt te (own.map (·.2))) (gName i)) (dSet (ρ := ρ) p f) := by
  cases Lcc.hK
  exact ⟨rfl, ps_setLc hc hN hy hyl hsw Lcc.hi Lcc.ok Lcc.hg Lcc.ht Lcc.he hs, sem_set L (fe_lc hc hN Lcc hs (pos := pos)).sem⟩

theorem fs_setLcO (L : OL D i rb gt p) (hc : X.calm = true) (hN : X.N.Nodup) (Lcc : Lc D X K R mS elt tg iter ifs scope own wi g tt te rb f)
    (hsw : swapsWith (.ListComp elt [⟨tg, iter, ifs, 0⟩] scope pos) (some (.Name y py)) spos.line X.env = pure true) (hy : X.N[i]? = some y := by rfl) (hyl : X.env.scope.names.lookup y = some .local := by rfl) (hs : ∀ x, foldedSetIterable iter X.env x = pure x := by intro _; rfl) :
    FS D X K R rr (.Assign [.Name y py] (.ListComp elt [⟨tg, iter, ifs, 0⟩] scope pos) spos) (tAsg (tLc wi g tt te (own.map (·.2))) (gName i)) (dSet (ρ := ρ) p f) := by
  cases Lcc.hK
  exact ⟨rfl, ps_setLc hc hN hy hyl hsw Lcc.hi Lcc.ok Lcc.hg Lcc.ht Lcc.he hs, sem_setO L (fn_lc hc hN Lcc hs (pos := pos)).sem⟩

end

/-! ### new lists that nobody else holds -/
/-- a reading whose answer is a new list of these items -/
def NewL (K : PySem.W.Frag) (r : Rp α) (H : Hp) (O F : List Addr) (xs : List α) (rd : VK → Prop) : Prop :=
  ∀ Q : VK, (∀ p H' ws, Same H H' → H p = none → H' p = some (.lst ws) → xs.length ≤ sizeLine → Paired (r.rp K (hid (O ++ F) H)) xs ws → Q (.ref p) H') → rd Q
theorem NewL.own {K : PySem.W.Frag} {H : Hp} {O F : List Addr} {xs : List α} {rd : VK → Prop} (h : NewL K r H O F xs rd) (d : Dom O F H) (Q : VK)
    (k : ∀ v H' F', Same H H' → (∀ p ∈ F', H p = none) → F'.Nodup → (∀ p ∈ F', ∃ u, H' p = some u) → (oList r).rp K H' (hid (O ++ F ++ F') H') xs v F' → Q v H') : rd Q :=
  h Q fun p H' ws e n h1 hz h2 => k _ H' [p] e (fun q hq => by
    have : q = p := by simpa using hq
    rw [this]; exact n) (List.nodup_cons.mpr ⟨by simp, List.nodup_nil⟩) (fun q hq => by
    have : q = p := by simpa using hq
    exact ⟨_, by rw [this]; exact h1⟩) ⟨p, ws, rfl, rfl, h1, hz, Paired.imp h2 fun _ _ => r.mono (.mk fun q u hq nt => by
      obtain ⟨a1, a2⟩ := hid_some hq
      have hn : q ≠ p := ne_of_none a2 n
      rw [hid_out (fun z => (List.mem_append.mp z).elim a1 fun z => hn (by simpa using z))]
      exact e.wk.get q u a2 nt)⟩
/-- list(x) -/
theorem fn_list1 {x : Str} {p : Pos} {f : ε → Rs (List α)} (hg : Gl X x) (hm : X.mg x = none) (hv : bootBuiltins x = some (.type "list")) (ha : FE D X K R mS e ta (rList r) f) (hn : x ≠ "__name__" := by decide) (hdb : (x == ("__debug__" : Str)) = false := by decide)
    (he : starEach (e :: []) X.env = (false, eval e X.env) :: starEach [] X.env := by rfl) (hpl : (backTo pos (starEach [] X.env)).any (·.1) = false := by rfl) : FN D X K R (.Call (.Name x p) [e] [] pos) (tCB (qListOf K) (tCons ta tNil)) (oList r) (d1 some f) := by
  cases ha.hK
  exact ⟨rfl, pe_callTy call_list_of hg hm hv (pa_cons ha.pe pa_nil he) hn hdb he hpl, fun H O F E σ I Q k => ha.sem H O F E σ I _ ((good_bind k).mono (fun xs ex k v H1 e1 r1 => by
    have k : ∀ v H' F', Same H H' → _ := k
    have nl : NewL X.K r H1 O F xs (fun Q => qListOf X.K [v] H1 Q) := fun Q q => by
      obtain ⟨p, vs, rfl, hp, hl, hv⟩ := r1
      exact ⟨p, vs, rfl, .inl (.inl (.inl (hid_le.get _ _ hp))), fun n hn => q n _ vs (Fx.same_upd hn) hn upd_same hl hv⟩
    exact nl.own (Dom.same I.dom e1) Q fun v H' F' e2 n2 nd d2 r2 => k v H' F' (e1.trans e2) (fun p hp => e1.free (n2 p hp)) nd d2 r2) fun c k => k)⟩

/-- x[a:b] -/
theorem fn_cut {rs : Rp (List α)} {g : ε → Rs (List α)} {lo hi : Option Expr} {tl th : TO} {fl fh : ε → Rs (Option Int)} {p2 : Pos} (hc : Cuts rs r) (h : FE D X K R mS e te rs g) (hl : FO D X K R lo tl fl) (hh : FO D X K R hi th fh) :
    FN D X K R (.Subscript e (.Slice lo hi none p2) pos) (tSl (rSlL K) te tl th) (oList r) (dCut g fl fh) := by
  cases h.hK
  exact ⟨rfl, pe_slice sl_list h.pe hl.po hh.po, fun H O F E σ I Q k =>
  h.sem H O F E σ I _ ((good_bind k).mono (fun xs _ k v H1 e1 r1 => hl.sem H1 O F E σ (I.same e1) _ ((good_bind k).mono (fun l _ k H2 e2 => hh.sem H2 O F E σ (I.same (e1.trans e2)) _ ((good_bind k).mono (fun u _ k H3 e3 => by
    have k : ∀ v H' F', Same H H' → _ := k
    have r3 := rs.mono (hidM_sm (m := mS) (e2.trans e3)) r1
    have e13 := (e1.trans e2).trans e3
    have nl : NewL X.K r H3 O F (cutF l u xs) (fun Q => rSlL X.K v l u H3 Q) := fun Q q => by
      obtain ⟨p, vs, h1, h2, hz, h3⟩ := hc _ _ _ _ r3
      subst h1
      exact ⟨p, vs, rfl, Wk.seq hidM_low h2, fun n hn => q n _ _ (Fx.same_upd hn) hn upd_same (Nat.le_trans (cutF_len _ _ _) hz) (paired_cut h3 l u)⟩
    exact nl.own (Dom.same I.dom e13) Q fun v H' F' e4 n2 nd d2 r2 => k v H' F' (e13.trans e4) (fun p hp => e13.free (n2 p hp)) nd d2 r2)
    fun c k H3 e3 => k H3 ((e1.trans e2).trans e3))) fun c k H2 e2 => k H2 (e1.trans e2))) fun _ k => k)⟩

/-- x + y -/
theorem fn_cat {f g : ε → Rs (List α)} (ha : FE D X K R mS a ta (rList r) f) (hb : FE D X K R mS b tb (rList r) g) : FN D X K R (.BinOp a .Add b pos) (tOp rCat ta tb) (oList r) (d2 catF f g) := by
  cases ha.hK
  exact ⟨rfl, pe_op op_cat ha.pe hb.pe, fun H O F E σ I Q k => ha.sem H O F E σ I _ ((good_bind k).mono (fun xs _ k v H1 e1 r1 => hb.sem H1 O F E σ (I.same e1) _ ((good_bind k).mono (fun ys _ k w H2 e2 r2 => by
    unfold catF at k
    by_cases c : xs.length + ys.length ≤ sizeLine
    · rw [cIf_pos c] at k
      have k : ∀ v H' F', Same H H' → _ := k
      have e12 := e1.trans e2
      have nl : NewL X.K r H2 O F (xs ++ ys) (fun Q => rCat v w H2 Q) := fun Q q => by
        obtain ⟨p, vs, rfl, hp, hl1, hv⟩ := (rList r).mono (hidM_sm (m := mS) e2) r1
        obtain ⟨p2, us, rfl, hq, hl2, hu⟩ := r2
        exact ⟨p, p2, vs, us, rfl, rfl, hid_le.get _ _ hp, hid_le.get _ _ hq, by rw [← Paired.len hv, ← Paired.len hu]; exact c, fun n hn => q n _ _ (Fx.same_upd hn) hn upd_same (by rw [List.length_append]; exact c) (Paired.app hv hu)⟩
      exact nl.own (Dom.same I.dom e12) Q fun v H' F' e4 n2 nd d2 r2 => k v H' F' (e12.trans e4) (fun p hp => e12.free (n2 p hp)) nd d2 r2
    · rw [cIf_neg c] at k; exact k.elim) fun c k H2 e2 => k H2 (e1.trans e2))) fun _ k => k)⟩

/-- x * n -/
noncomputable def repF : List α → Int → Option (List α) := fun xs n => cIf (-(2 ^ 63) ≤ n ∧ n < 2 ^ 63 ∧ xs.length * n.toNat ≤ sizeLine) (some (List.replicate n.toNat xs).flatten) none
theorem rep_len (xs : List α) : ∀ n : Nat, (List.replicate n xs).flatten.length = xs.length * n
  | 0 => rfl
  | n + 1 => by rw [List.replicate_succ, List.flatten_cons, List.length_append, rep_len xs n, Nat.mul_succ, Nat.add_comm]
theorem fn_rep {f : ε → Rs (List α)} {g : ε → Rs Int} (ha : FE D X K R mS a ta (rList r) f) (hb : FE D X K R mb b tb rInt g) : FN D X K R (.BinOp a .Mult b pos) (tOp rRep ta tb) (oList r) (d2 repF f g) := by
  cases ha.hK
  exact ⟨rfl, pe_op op_rep ha.pe hb.pe, fun H O F E σ I Q k => ha.sem H O F E σ I _ ((good_bind k).mono (fun xs _ k v H1 e1 r1 => hb.sem H1 O F E σ (I.same e1) _ ((good_bind k).mono (fun n _ k w H2 e2 r2 => by
    unfold repF at k
    by_cases c : -(2 ^ 63) ≤ n ∧ n < 2 ^ 63 ∧ xs.length * n.toNat ≤ sizeLine
    · rw [cIf_pos c] at k
      have k : ∀ v H' F', Same H H' → _ := k
      have e12 := e1.trans e2
      have nl : NewL X.K r H2 O F (List.replicate n.toNat xs).flatten (fun Q => rRep v w H2 Q) := fun Q q => by
        obtain ⟨p, vs, rfl, hp, hl1, hv⟩ := (rList r).mono (hidM_sm (m := mS) e2) r1
        exact ⟨p, n, vs, rfl, r2, hid_le.get _ _ hp, c.1, c.2.1, by rw [← Paired.len hv]; exact c.2.2, fun l hn => q l _ _ (Fx.same_upd hn) hn upd_same (by rw [rep_len]; exact c.2.2) (paired_rep hv _)⟩
      exact nl.own (Dom.same I.dom e12) Q fun v H' F' e4 n2 nd d2 r2 => k v H' F' (e12.trans e4) (fun p hp => e12.free (n2 p hp)) nd d2 r2
    · rw [cIf_neg c] at k; exact k.elim) fun c k H2 e2 => k H2 (e1.trans e2))) fun _ k => k)⟩

/-- an item of an owned list is shared -/
theorem fe_ixO {i : Nat} {x : Str} {gt : ε → Option (List α)} {p : ε → Option (List α) → ε} {f : ε → Rs Int} {px : Pos} {bo : Bool} (L : OLb bo D i r gt p) (hb : FE D X K R mb b tb rInt f) (hN : X.N[i]? = some x := by rfl)
    (hv : Vis X.env.scope x := by first | exact Or.inl rfl | exact Or.inr (Or.inl rfl) | exact Or.inr (Or.inr rfl)) (hd : (x == ("__debug__" : Str)) = false := by decide) (hcd : (x == ("__classdict__" : Str)) = false := by decide) (hs : PlainIx b := by intro _ _; rfl) :
    FE D X K R mS (.Subscript (.Name x px) b pos) (tOp (rIxL K) (tVar i) tb) r (d2 atI (dV gt) f) := by
  cases hb.hK
  exact ⟨rfl, pe_ix ix_list (pe_var hN hv hd hcd) hb.pe hs, fun H O F E σ I Q k => by
  have k := good_bind k
  unfold dV at k
  cases eg : gt E with
  | none => rw [eg] at k; exact k.elim
  | some xs =>
    rw [eg] at k
    have k := good_bind (show Good ((f E).bind _) _ _ from k)
    obtain ⟨q0, vs0, z0, z1, _⟩ := L.lst I eg
    refine ⟨.ref q0, z0, hb.sem H O F E σ I _ (k.mono (fun j _ k v H1 e1 r1 => ?_) fun _ k => k)⟩
    obtain ⟨q, vs, y0, y1, y2, y3, y4, y5⟩ := L.lst (I.same e1) eg
    rw [z0] at y0
    cases y0
    cases ej : atI xs j with
    | none => rw [ej] at k; exact k.elim
    | some z =>
      rw [ej] at k
      obtain ⟨n, g1, g2, g3, _, _⟩ := atI_get ej
      obtain ⟨u, h1, h2⟩ := Paired.get y4 g2
      refine ⟨q0, vs, j, u, rfl, r1, .inl (.inl y1), ?_, k u H1 e1 h2⟩
      unfold atI at ej ⊢
      rw [← Paired.len y4]
      cases ei : ixN xs.length j with
      | none => rw [ei] at ej; cases ej
      | some n' =>
        have : n' = n := by
          have q := (ixN_seq ei).1
          rw [g1] at q
          exact (Option.some.inj q).symm
        subst this
        exact h1⟩

/-! ### None or a value -/
theorem fe_some {f : ε → Rs α} (h : FE D X K R m e te r f) (hn : ∀ K H x v, r.rp K H x v → v ≠ .non) : FE D X K R m e te (rOpt r) (d1 (fun a => some (some a)) f) := by
  cases h.hK
  exact ⟨rfl, h.pe, fun H O F E σ I Q k =>
  h.sem H O F E σ I Q ((good_bind k).mono (fun x _ k v H1 e1 r1 => k v H1 e1 ⟨hn _ _ _ _ r1, r1⟩) fun _ k => k)⟩

theorem fe_unw {f : ε → Rs (Option α)} (h : FE D X K R m e te (rOpt r) f) : FE D X K R m e te r (d1 id f) := by
  cases h.hK
  exact ⟨rfl, h.pe, fun H O F E σ I Q k =>
  h.sem H O F E σ I Q ((good_bind k).mono (fun x _ k v H1 e1 r1 => by
    cases x with
    | none => exact k.elim
    | some x => exact k v H1 e1 r1.2) fun _ k => k)⟩

theorem nn_list : ∀ (K : PySem.W.Frag) (H : Hp) (x : List α) (v : V), (rList r).rp K H x v → v ≠ .non := fun K H x v ⟨p, vs, h1, _⟩ z => by rw [h1] at z; cases z
theorem nn_tup : ∀ (K : PySem.W.Frag) (H : Hp) (x : π) (v : V), (rTup P).rp K H x v → v ≠ .non := fun K H x v ⟨p, vs, h1, _⟩ z => by rw [h1] at z; cases z
theorem nn_int : ∀ (K : PySem.W.Frag) (H : Hp) (x : Int) (v : V), rInt.rp K H x v → v ≠ .non := fun K H x v h z => by
  have h : v = .int x := h
  rw [h] at z; cases z
def isN : Option α → Unit → Option Bool := fun x _ => some x.isNone
def notN : Option α → Unit → Option Bool := fun x _ => some x.isSome
def qIsN : R2 := fun x y H Q => y = .non ∧ Q (.bl (decide (x = .non))) H
def qNotN : R2 := fun x y H Q => y = .non ∧ Q (.bl (!decide (x = .non))) H
theorem b_isN {K : PySem.W.Frag} : Bin K ma mb m qIsN (rOpt r) rNone rBool isN := fun H O F x y z v w _ h1 h2 e Q q => by
  cases e
  refine ⟨h2, q _ H (Same.refl H) ?_⟩
  cases x with
  | none => rw [show v = .non from h1]; rfl
  | some x =>
    show V.bl _ = V.bl _
    rw [decide_eq_false h1.1]; rfl
theorem b_notN {K : PySem.W.Frag} : Bin K ma mb m qNotN (rOpt r) rNone rBool notN := fun H O F x y z v w _ h1 h2 e Q q => by
  cases e
  refine ⟨h2, q _ H (Same.refl H) ?_⟩
  cases x with
  | none => rw [show v = .non from h1]; rfl
  | some x =>
    show V.bl _ = V.bl _
    rw [decide_eq_false h1.1]; rfl

/-! ### items of tuples and of rows of unlike things, by a written place -/
def pHead : α × π → Option α := fun a => some a.1
/-- the k-th part -/
structure Prt (P : PD π) (k : Nat) (r : Rp α) (g : π → α) : Prop where
  run : ∀ {K : PySem.W.Frag} {H : Hp} {x : π} {vs : List V}, P.rel K H H x vs → ∃ v, vs[k]? = some v ∧ r.rp K H (g x) v
theorem pt_z : Prt (pC true r P) 0 r (fun a => a.1) := ⟨fun ⟨v, us, h1, h2, h3⟩ => ⟨v, by rw [h1]; rfl, h2⟩⟩
theorem pt_s {k : Nat} {g : π → α} (h : Prt P k r g) : Prt (pC true rb P) (k + 1) r (fun a => g a.2) := ⟨fun ⟨v, us, h1, h2, h3⟩ => by
  obtain ⟨w, q1, q2⟩ := h.run h3
  exact ⟨w, by rw [h1]; exact q1, q2⟩⟩
theorem b_ixP {K : PySem.W.Frag} {k : Nat} {g : π → α} (h : Prt P k r g) : Bin K m mb m (rIxT K) (rTup P) (rLit (k : Int)) r (fun x _ => some (g x)) := fun H O F x y z v w _ h1 h2 e Q q => by
  cases e
  obtain ⟨p, vs, rfl, hp, hv⟩ := h1
  obtain ⟨u, g1, g2⟩ := h.run hv
  exact ⟨p, vs, k, u, rfl, h2, .inl (.inl (hid_le.get _ _ hp)), atI_nat g1, q u H (Same.refl H) g2⟩
theorem b_ixR {K : PySem.W.Frag} {k : Nat} {g : π → α} (h : Prt P k r g) : Bin K m mb m (rIxL K) (rRow P) (rLit (k : Int)) r (fun x _ => some (g x)) := fun H O F x y z v w _ h1 h2 e Q q => by
  cases e
  obtain ⟨p, vs, rfl, hp, hv⟩ := h1
  obtain ⟨u, g1, g2⟩ := h.run hv
  exact ⟨p, vs, k, u, rfl, h2, .inl (.inl (hid_le.get _ _ hp)), atI_nat g1, q u H (Same.refl H) g2⟩
theorem c_lenP {K : PySem.W.Frag} {n : Nat} (h : ∀ K H H' a vs, P.rel K H H' a vs → vs.length = n) : C1 K ma m (qLen K) (rTup P) rInt (fun _ => some (n : Int)) := fun H O F x z v d h1 e Q k => by
  obtain ⟨p, vs, rfl, hp, hv⟩ := h1
  cases e
  exact ⟨p, vs, rfl, .inr (.inl (.inl (hid_le.get _ _ hp))), k _ H (Same.refl H) (by rw [h _ _ _ _ _ hv]; rfl)⟩
theorem c_lenR {K : PySem.W.Frag} {n : Nat} (h : ∀ K H H' a vs, P.rel K H H' a vs → vs.length = n) : C1 K ma m (qLen K) (rRow P) rInt (fun _ => some (n : Int)) := fun H O F x z v d h1 e Q k => by
  obtain ⟨p, vs, rfl, hp, hv⟩ := h1
  cases e
  exact ⟨p, vs, rfl, .inl (.inl (.inl (hid_le.get _ _ hp))), k _ H (Same.refl H) (by rw [h _ _ _ _ _ hv]; rfl)⟩
/-- the script as a list -/
theorem fe_call0 {CX : CXT} {k : Nat} {fa : Addr} {fd : FuncData} {XQ : XK → Str → Hp → Prop} {EX : XK} {x : Str} {p : Pos} {mf : Unit → Rs ρ} {rr : Rp ρ} (F : FnOk X.prog X.w K X.mg X.base CX k fa fd [] (spM K XQ pNil (retS rr) mf)) (hr : Room k X.A) (hg : Gl X x) (hm : X.mg x = some (.ref fa)) (hk : PySem.W.keepIn K (.ref fa) = true) (hb : Binds K fd [] []) (hx : Passes CX X EX)
    (hdb : (x == ("__debug__" : Str)) = false := by decide) (hK : X.K = K := by rfl) : FE D X K R mS (.Call (.Name x p) [] [] pos) (tCall (spM K XQ pNil (retS rr) mf) [] EX tNil) rr (fun _ => nox (mf ())) := by
  cases hK
  exact ⟨rfl, pe_call0 F hr hg hm hk hb .nil hx hdb, fun H O F E σ I Q kk => by
  refine ⟨O ++ F, (), rfl, dom_nil I.dom, I.tab, (good_nox (R' := fun _ => False) kk).mono (fun d _ kk v H2 F2 e2 _ _ _ r2 => kk v H2 e2 r2.2) fun c kk => kk.elim⟩⟩

/-- at a mode -/
theorem atM (m : Md) {f : ε → Rs α} (h : FE D X K R m e te r f) : FE D X K R m e te r f := by
  cases h.hK
  exact h

/-- a comprehension over an owned list -/
theorem fi_own {i : Nat} {x : Str} {tg : Expr} {gt : ε → Option (List α)} {p : ε → Option (List α) → ε} {px : Pos} {bo : Bool} (L : OLb bo D i r gt p) (hN : X.N[i]? = some x := by rfl)
    (hv : Vis X.env.scope x := by first | exact Or.inl rfl | exact Or.inr (Or.inl rfl) | exact Or.inr (Or.inr rfl)) (hd : (x == ("__debug__" : Str)) = false := by decide) (hcd : (x == ("__classdict__" : Str)) = false := by decide)  (hK : X.K = K := by rfl):
    FI true D X K R mS tg (.Name x px) (iList K (tVar i)) r (dV gt) := by
  cases hK
  exact ⟨rfl, pi_list (pe_var hN hv hd hcd), fun H O F E σ I Q k => by
  unfold dV at k
  cases eg : gt E with
  | none => rw [eg] at k; exact k.elim
  | some xs =>
    rw [eg] at k
    obtain ⟨q, vs, y0, y1, y2, y3, y4, y5⟩ := L.lst I eg
    refine ⟨.ref q, y0, q, rfl, ⟨vs, .inl (.inl y1)⟩, k y2 _ H (Same.refl H) fun H2 e2 e3 => ?_⟩
    have hq : SqL X.K H2 q vs := .inl (.inl (e3.get q _ y1))
    refine ⟨fun j a ha => ?_, fun j hj => ⟨vs, hq, by rw [← Paired.len y4]; exact hj⟩⟩
    obtain ⟨w, g1, g2⟩ := Paired.get y4 ha
    refine ⟨⟨vs, w, hq, g1⟩, fun z H' y => ⟨y.1, ?_⟩⟩
    have := (y.2 vs hq).symm.trans g1
    cases this
    exact g2⟩

/-! ### short names for what is written often -/
abbrev zAdd : Int → Int → Option Int := iI fun i j => i + j
abbrev zSub : Int → Int → Option Int := iI fun i j => i - j
noncomputable abbrev zMul : Int → Int → Option Int := iC mulOk fun i j => i * j
noncomputable abbrev zDiv : Int → Int → Option Int := iC divOk fun i j => i / j
noncomputable abbrev zMod : Int → Int → Option Int := iC modOk fun i j => i % j
noncomputable abbrev zPow : Int → Int → Option Int := iC powOk fun i j => i ^ j.toNat
abbrev zLt : Int → Int → Option Bool := iI fun i j => decide (i < j)
abbrev zLe : Int → Int → Option Bool := iI fun i j => decide (i ≤ j)
abbrev zGt : Int → Int → Option Bool := iI fun i j => decide (j < i)
abbrev zGe : Int → Int → Option Bool := iI fun i j => decide (j ≤ i)
abbrev zNeg : Int → Option Int := fun i => some (-i)
def dRet (f : ε → Rs ρ) : ε → Rs (Fl ε ρ) := fun E => (f E).bind fun a => .ok (.rt a)
def dBrk : ε → Rs (Fl ε ρ) := fun E => .ok (.bk E)
def dCnt : ε → Rs (Fl ε ρ) := fun E => .ok (.ct E)
end
/-- a def that stands, with its promise -/
structure Cal (Pg : Program) (w : World) (K : PySem.W.Frag) (mg : Str → Option Value) (base : Heap) (CX : CXT) (x : Str) (ps : List Str) (k : Nat) (sp : Sp) : Prop where
  ex : ∃ (f : Addr) (fd : FuncData), FnOk Pg w K mg base CX k f fd ps sp ∧ Binds K fd ps [] ∧ mg x = some (.ref f) ∧ PySem.W.keepIn K (.ref f) = true
theorem paired_ints {K : PySem.W.Frag} {H : Hp} : ∀ ns : List Int, Paired (rInt.rp K H) ns (ns.map V.int)
  | [] => .nil
  | n :: ns => .cons rfl (paired_ints ns)
theorem law_end {K : PySem.W.Frag} {H : Hp} {a : Addr} {ns : List Int} {mf : List Int × Unit → Rs Bool} (hl : ns.length ≤ 63) (hS : SqL K H a (ns.map V.int)) (h : mf (ns, ()) = .ok true) (hT : LamX.Tabs Tbs.T H := by exact fun _ z => nomatch z) :
    spM K x0 (pC true (rSeq rInt) pNil) (retS rBool) mf [.ref a] H (fun v _ => v = .bl true) (fun _ _ _ => False) := by
  refine ⟨[], (ns, ()), ⟨.ref a, [], rfl, ⟨a, ns.map V.int, rfl, ?_, line1000 (show ns.length ≤ 1000 by omega), paired_ints ns⟩, rfl⟩, fun p hp => (nomatch hp), hT, ?_⟩
  · show SqL K (hid [] H) a _
    rw [hid_nil]; exact hS
  · rw [h]
    exact fun v H' F' _ _ _ _ r => r.2
end Fx

/-! Fx7: how plain functions are reckoned with. -/
namespace Fx
open PySem PySem.Spec L2
def wp {α : Type} (m : Rs α) (Q : α → Prop) : Prop := match m with
  | .ok a => Q a
  | _ => False
section
variable {α β γ ε ρ : Type}
theorem wp_ok {a : α} {Q : α → Prop} : wp (.ok a) Q = Q a := rfl
theorem wp_bad {Q : α → Prop} : wp (.bad : Rs α) Q = False := rfl
theorem wp_exc {c : Str} {Q : α → Prop} : wp (.exc c : Rs α) Q = False := rfl
theorem wp_bind {m : Rs α} {k : α → Rs β} {Q : β → Prop} : wp (m.bind k) Q = wp m fun a => wp (k a) Q := by cases m <;> rfl
theorem wp_map {m : Rs α} {f : α → β} {Q : β → Prop} : wp (m.map f) Q = wp m fun a => Q (f a) := by cases m <;> rfl
theorem wp_nox {m : Rs α} {Q : α → Prop} : wp (nox m) Q = wp m Q := by cases m <;> rfl
theorem wp_ite {c : Prop} [Decidable c] {a b : Rs α} {Q : α → Prop} : wp (if c then a else b) Q = if c then wp a Q else wp b Q := by split <;> rfl
theorem wp.mono {m : Rs α} {Q Q' : α → Prop} (h : wp m Q) (k : ∀ a, Q a → Q' a) : wp m Q' := by
  cases m with
  | ok a => exact k a h
  | exc c => exact h
  | bad => exact h
theorem wp.eq {m : Rs α} {a : α} (h : wp m fun x => x = a) : m = .ok a := by
  cases m with
  | ok b => exact congrArg _ h
  | exc c => exact h.elim
  | bad => exact h.elim
theorem wp.of {m : Rs α} {Q : α → Prop} (h : wp m Q) : ∃ a, m = .ok a ∧ Q a := by
  cases m with
  | ok b => exact ⟨b, rfl, h⟩
  | exc c => exact h.elim
  | bad => exact h.elim
theorem wp_of_eq {m : Rs α} {a : α} {Q : α → Prop} (e : m = .ok a) (h : Q a) : wp m Q := by rw [e]; exact h
theorem wp_some {o : Option α} {a : α} {Q : α → Prop} (e : o = some a) (h : Q a) : wp (ofO o) Q := by rw [e]; exact h
/-- a loop, by what holds ahead of its i-th turn -/
theorem wp_forR {st : ε → α → Option ε} {body : ε → Rs (Fl ε ρ)} {Q : Fl ε ρ → Prop} (P : Nat → ε → Prop) : ∀ (xs : List α) (E : ε), P 0 E →
    (∀ i x E, xs[i]? = some x → P i E → ∃ E1, st E x = some E1 ∧ wp (body E1) fun fl => match fl with
      | .nx E2 => P (i + 1) E2
      | .ct E2 => P (i + 1) E2
      | .bk E2 => Q (.nx E2)
      | .rt a => Q (.rt a)) → (∀ E, P xs.length E → Q (.nx E)) → wp (forR st body xs E) Q := by
  intro xs
  induction xs generalizing P with
  | nil => exact fun E h0 _ hd => hd E h0
  | cons x xs ih =>
    intro E h0 hs hd
    obtain ⟨E1, e1, h1⟩ := hs 0 x E rfl h0
    unfold forR
    rw [e1, ofO_some, Rs.bind_ok, wp_bind]
    refine h1.mono fun fl q => ?_
    have ih' := fun E (h : P 1 E) => ih (fun i => P (i + 1)) E h (fun i y E hy hp => hs (i + 1) y E (by simpa using hy) hp) (fun E h => hd E h)
    cases fl with
    | nx E2 => exact ih' E2 q
    | ct E2 => exact ih' E2 q
    | bk E2 => exact q
    | rt a => exact q
/-- .. by the part that is done: done ++ x :: rest = xs -/
theorem wp_forL {st : ε → α → Option ε} {body : ε → Rs (Fl ε ρ)} {Q : Fl ε ρ → Prop} (P : List α → ε → Prop) (xs : List α) (E : ε) (h0 : P [] E)
    (hs : ∀ d x r E, xs = d ++ x :: r → P d E → ∃ E1, st E x = some E1 ∧ wp (body E1) fun fl => match fl with
      | .nx E2 => P (d ++ [x]) E2
      | .ct E2 => P (d ++ [x]) E2
      | .bk E2 => Q (.nx E2)
      | .rt a => Q (.rt a)) (hd : ∀ E, P xs E → Q (.nx E)) : wp (forR st body xs E) Q := by
  refine wp_forR (fun i E => P (xs.take i) E) xs E (by simpa using h0) (fun i x E hx hp => ?_) (fun E h => hd E (by simpa using h))
  have hi : i < xs.length := by
    rcases Nat.lt_or_ge i xs.length with h | h
    · exact h
    · rw [List.getElem?_eq_none h] at hx; cases hx
  have e : xs = xs.take i ++ x :: xs.drop (i + 1) := by
    rw [List.getElem?_eq_getElem hi] at hx
    cases hx
    rw [← List.drop_eq_getElem_cons hi, List.take_append_drop]
  have e2 : xs.take (i + 1) = xs.take i ++ [x] := by
    rw [List.take_add_one, hx]; rfl
  obtain ⟨E1, h1, h2⟩ := hs _ x _ E e hp
  exact ⟨E1, h1, h2.mono fun fl q => by
    cases fl with
    | nx E2 => rw [e2]; exact q
    | ct E2 => rw [e2]; exact q
    | bk E2 => exact q
    | rt a => exact q⟩
/-- a while, by what holds ahead of each turn and a measure -/
theorem wp_while {c : ε → Rs Bool} {body : ε → Rs (Fl ε ρ)} {Q : Fl ε ρ → Prop} (P : ε → Prop) (μ : ε → Nat) (E : ε) (h0 : P E)
    (hs : ∀ E, P E → wp (c E) fun b => if b = true then wp (body E) fun fl => match fl with
      | .nx E2 => P E2 ∧ μ E2 < μ E
      | .ct E2 => P E2 ∧ μ E2 < μ E
      | .bk E2 => Q (.nx E2)
      | .rt a => Q (.rt a) else Q (.nx E)) : wp (dWhile c body E) Q := by
  have key : ∀ (n : Nat) (E : ε), P E → μ E < n → ∃ fl, whileF c body n E = .ok fl ∧ Q fl := by
    intro n
    induction n with
    | zero => exact fun E _ h => absurd h (Nat.not_lt_zero _)
    | succ n ih =>
      intro E hp hm
      obtain ⟨b, e1, h1⟩ := (hs E hp).of
      unfold whileF
      rw [e1, Rs.bind_ok]
      cases b with
      | false => exact ⟨_, rfl, h1⟩
      | true =>
        obtain ⟨fl, e2, h2⟩ := wp.of (show wp (body E) _ from h1)
        rw [if_pos rfl, e2, Rs.bind_ok]
        cases fl with
        | nx E2 => exact ih E2 h2.1 (by have := h2.2; omega)
        | ct E2 => exact ih E2 h2.1 (by have := h2.2; omega)
        | bk E2 => exact ⟨_, rfl, h2⟩
        | rt a => exact ⟨_, rfl, h2⟩
  obtain ⟨fl, e, q⟩ := key (μ E + 1) E h0 (Nat.lt_succ_self _)
  rw [dWhile_eq _ e (by simp)]
  exact q
/-- a comprehension, item by item -/
theorem lcR_map {step : α → Rs (Option β)} {g : α → β} : ∀ {xs : List α}, (∀ x ∈ xs, step x = .ok (some (g x))) → lcR step xs = .ok (xs.map g)
  | [], _ => rfl
  | x :: xs, h => by
    unfold lcR
    rw [h x List.mem_cons_self, Rs.bind_ok, lcR_map fun y hy => h y (List.mem_cons_of_mem _ hy)]
    rfl
theorem lcR_filter {step : α → Rs (Option β)} {g : α → Option β} : ∀ {xs : List α}, (∀ x ∈ xs, step x = .ok (g x)) → lcR step xs = .ok (xs.filterMap g)
  | [], _ => rfl
  | x :: xs, h => by
    unfold lcR
    rw [h x List.mem_cons_self, Rs.bind_ok, lcR_filter fun y hy => h y (List.mem_cons_of_mem _ hy)]
    rw [Rs.bind_ok, List.filterMap_cons]
    cases g x <;> rfl
theorem line_le {n : Nat} (h : n ≤ 1000000) : n ≤ sizeLine := Nat.le_trans h (by decide)
theorem line_lt {n : Nat} (h : n < 1000000) : n < sizeLine := Nat.lt_of_lt_of_le h (by decide)
theorem rngF_nat {n : Nat} (h : n ≤ 1000000) : rngF 0 (n : Int) = some (rng 0 n) := by
  unfold rngF
  rw [cIf_pos ⟨by omega, by rw [show ((n : Int) - 0).toNat = n by omega]; exact line_le h⟩, show ((n : Int) - 0).toNat = n by omega]
theorem rngF_int {a b : Int} (h0 : -1000000 ≤ a) (h1 : b ≤ 1000000) (h2 : a ≤ 1000000) (h3 : -1000000 ≤ b) : rngF a b = some (rng a (b - a).toNat) := by
  unfold rngF
  rw [cIf_pos ⟨by omega, Nat.le_trans (show (b - a).toNat ≤ 2000000 by omega) (by decide)⟩]
theorem rng_zero (n : Nat) : rng 0 n = (List.range n).map fun (i : Nat) => (i : Int) := by
  unfold rng
  congr 1
  funext i
  omega
theorem mem_rng {lo : Int} {n : Nat} {x : Int} : x ∈ rng lo n ↔ lo ≤ x ∧ x < lo + n := by
  unfold rng
  rw [List.mem_map]
  constructor
  · rintro ⟨i, hi, rfl⟩
    have := List.mem_range.mp hi
    omega
  · intro h
    exact ⟨(x - lo).toNat, List.mem_range.mpr (by omega), by omega⟩
theorem rng_at {lo : Int} {n i : Nat} (h : i < n) : (rng lo n)[i]? = some (lo + (i : Int)) := by
  unfold rng
  rw [List.getElem?_map, List.getElem?_range h]
  rfl
theorem rng_i {lo : Int} {n i : Nat} {x : Int} (h : (rng lo n)[i]? = some x) : x = lo + (i : Int) ∧ i < n := by
  obtain ⟨a, b⟩ := rng_get h
  exact ⟨b, a⟩
/-! ### items -/
theorem atI_pos {xs : List α} {i : Int} (h0 : 0 ≤ i) (h1 : i < xs.length) : atI xs i = some (xs[i.toNat]'(by omega)) := by
  have e : i = ((i.toNat : Nat) : Int) := by omega
  have := atI_nat (xs := xs) (j := i.toNat) (v := xs[i.toNat]'(by omega)) (List.getElem?_eq_getElem (by omega))
  rw [← e] at this
  exact this
theorem atI_nat' {xs : List α} {i : Nat} (h1 : i < xs.length) : atI xs (i : Int) = some xs[i] := atI_nat (List.getElem?_eq_getElem h1)
theorem atI_getD {xs : List α} {i : Int} (d : α) (h0 : 0 ≤ i) (h1 : i < xs.length) : atI xs i = some (xs.getD i.toNat d) := by
  rw [atI_pos h0 h1, List.getD_eq_getElem?_getD, List.getElem?_eq_getElem (by omega)]
  rfl
theorem atI_mem {xs : List α} {i : Int} {v : α} (h : atI xs i = some v) : v ∈ xs := by
  obtain ⟨j, _, e, _⟩ := atI_get h
  exact List.mem_of_getElem? e
theorem atI_ex {xs : List α} {i : Int} (h0 : 0 ≤ i) (h1 : i < xs.length) : ∃ v, atI xs i = some v ∧ v ∈ xs := ⟨_, atI_pos h0 h1, List.getElem_mem _⟩
theorem ixN_pos {n : Nat} {i : Int} (h0 : 0 ≤ i) (h1 : i < n) : ixN n i = some i.toNat := by
  unfold ixN
  rw [if_pos h0, if_pos h1]
/-! ### sizes of numbers -/
theorem log2_lt_of {n b : Nat} (hb : 0 < b) (h : n < 2 ^ b) : n.log2 < b := PySem.Flt.log2_lt_of hb h
theorem mulOk_of {i j : Int} {a b : Nat} (ha : i.natAbs < 2 ^ a) (hb : j.natAbs < 2 ^ b) (h0 : 0 < a) (h1 : 0 < b) (h : a + b ≤ 100000000) : mulOk i j := by
  have x := log2_lt_of h0 ha
  have y := log2_lt_of h1 hb
  unfold mulOk
  omega
theorem zMul_ok {i j : Int} (h : mulOk i j) : zMul i j = some (i * j) := cIf_pos h
theorem zMod_ok {i j : Int} (h : 0 < j) : zMod i j = some (i % j) := cIf_pos h
theorem zDiv_ok {i j : Int} (h : 0 < j) (h2 : j.natAbs.log2 < 9000) : zDiv i j = some (i / j) := cIf_pos ⟨h, h2⟩
theorem zPow_ok {i j : Int} (h : 0 ≤ j ∧ j ≤ 1000000 ∧ i.natAbs < 2 ^ 64) : zPow i j = some (i ^ j.toNat) := cIf_pos h
theorem catF_ok {xs ys : List α} (h : xs.length + ys.length ≤ 1000000) : catF xs ys = some (xs ++ ys) := cIf_pos (line_le h)
theorem repF_ok {xs : List α} {n : Nat} (h : xs.length * n ≤ 1000000) (hn : n ≤ 1000000) : repF xs (n : Int) = some (List.replicate n xs).flatten := cIf_pos ⟨by omega, by omega, line_le h⟩
/-- less than 2 ^ a in size -/
def Sz (a : Nat) (i : Int) : Prop := i.natAbs < 2 ^ a
theorem Sz.mul {a b : Nat} {i j : Int} (h : Sz a i) (k : Sz b j) : Sz (a + b) (i * j) := by
  unfold Sz at *
  rw [Int.natAbs_mul, Nat.pow_add]
  exact Nat.mul_lt_mul'' h k
theorem Sz.add {a : Nat} {i j : Int} (h : Sz a i) (k : Sz a j) : Sz (a + 1) (i + j) := by
  unfold Sz at *
  rw [Nat.pow_succ]
  omega
theorem Sz.mono {a b : Nat} {i : Int} (h : Sz a i) (l : a ≤ b) : Sz b i := Nat.lt_of_lt_of_le h (Nat.pow_le_pow_right (by decide) l)
theorem Sz.mulOk {a b : Nat} {i j : Int} (h : Sz a i) (k : Sz b j) (h0 : 0 < a) (h1 : 0 < b) (l : a + b ≤ 100000000) : mulOk i j := mulOk_of h k h0 h1 l
theorem Sz.of_bits {i : Int} {b : Nat} (h : Builtin.Int.intBits i ≤ b) : Sz b i := by
  unfold Sz
  unfold Builtin.Int.intBits at h
  split at h
  · rename_i z
    have : i.natAbs = 0 := by simpa using z
    rw [this]
    exact Nat.pow_pos (by decide)
  · refine Nat.lt_of_lt_of_le Nat.lt_log2_self (Nat.pow_le_pow_right (by decide) h)
end
end Fx

/-! Fx8: max and min with a default, in, index, == of tuples. -/
namespace Fx
open PySem PySem.Spec L2
variable [Tbs]
section
variable {ε ε' ρ α β γ π : Type} {D : EnvD ε} {X : Cx} {K : PySem.W.Frag} {R : Str → Hp → Prop} {rr : RetD ρ} {m m' ma mb : Md} {st : Stmt} {sts : List Stmt} {te ta tb : TE} {e a b c : Expr} {r : Rp α} {ra : Rp α} {rb : Rp β} {rc : Rp γ} {pos pos' : Pos} {P : PD π} {o : Ro α}

/-! ### max(xs, default=d) -/
theorem readsAll_ints {h : Heap} : ∀ {ns : List Int} {us : List Value}, Vals (ns.map V.int) us → ReadsAll h us (ns.map .int) []
  | [], _, .nil => .nil
  | n :: ns, u :: us, .cons r t => by
    obtain ⟨tk, rfl⟩ := r
    exact .cons (as := []) (bs := []) (.int n tk) (readsAll_ints t)
theorem alike_ints (ns : List Int) : PySem.W.AlikeAll (ns.map .int) := by
  refine ⟨fun x hx y hy => ?_, fun x hx => ?_⟩
  · obtain ⟨i, _, rfl⟩ := List.mem_map.mp hx
    obtain ⟨j, _, rfl⟩ := List.mem_map.mp hy
    first | rfl | simp [PySem.W.alike] | simp [alike]
  · obtain ⟨i, _, rfl⟩ := List.mem_map.mp hx
    exact fun z => nomatch z
theorem depth_ints : ∀ ns : List Int, PyData.depthAll (ns.map .int) = 0
  | [] => by rw [List.map_nil, PyData.depthAll]
  | n :: ns => by rw [List.map_cons, PyData.depthAll, depth_ints ns, PyData.depth]; rfl
def qMaxD (K : PySem.W.Frag) (g : List Int → Int → Int) : List V → List V → Hp → VK → Prop := fun vs zs H Q => ∃ (a : Addr) (ns : List Int) (d : Int), vs = [V.ref a] ∧ zs = [.int d] ∧ SqL K H a (ns.map V.int) ∧ Q (.int (g ns d)) H
def maxD0 (ns : List Int) (d : Int) : Int := match ns with
  | [] => d
  | n :: r => r.foldl max n
def minD0 (ns : List Int) (d : Int) : Int := match ns with
  | [] => d
  | n :: r => r.foldl min n
theorem cr_maxD (hc : X.calm = true) (hu : X.A.units + 64 < cLine) : CallRK X (.builtin "max") [Str.ofString "default"] (qMaxD X.K maxD0) := by
  intro pins s σ H vs zs us ws Q I r rz h
  obtain ⟨a, ns, d, rfl, rfl, hs, q⟩ := h
  obtain rfl := Vals.ref1 r
  obtain ⟨w1, rfl, e1⟩ := vals1 rz
  obtain ⟨its, rv, hl, hz⟩ := I.list hs
  refine PySem.W.max_list_default (xs := ns.map .int) (I.ok.hd hc) hl.isList (readsAll_ints rv) (alike_ints ns) (by rw [depth_ints]; omega) (fun h0 h' tk k => ?_) (fun y ys i v h' tk bs hx hv hr k => ?_)
  · cases ns with
    | nil => exact ⟨.int d, H, I.kept k, e1, q⟩
    | cons n r => cases h0
  · cases ns with
    | nil => cases hx
    | cons n r =>
      rw [List.map_cons] at hx
      cases hx
      rw [PySem.W.maxD_ints] at hr
      cases hr
      exact ⟨.int _, H, I.kept k, ⟨_, rfl⟩, q⟩
theorem cr_minD (hc : X.calm = true) (hu : X.A.units + 64 < cLine) : CallRK X (.builtin "min") [Str.ofString "default"] (qMaxD X.K minD0) := by
  intro pins s σ H vs zs us ws Q I r rz h
  obtain ⟨a, ns, d, rfl, rfl, hs, q⟩ := h
  obtain rfl := Vals.ref1 r
  obtain ⟨w1, rfl, e1⟩ := vals1 rz
  obtain ⟨its, rv, hl, hz⟩ := I.list hs
  refine PySem.W.min_list_default (xs := ns.map .int) (I.ok.hd hc) hl.isList (readsAll_ints rv) (alike_ints ns) (by rw [depth_ints]; omega) (fun h0 h' tk k => ?_) (fun y ys i v h' tk bs hx hv hr k => ?_)
  · cases ns with
    | nil => exact ⟨.int d, H, I.kept k, e1, q⟩
    | cons n r => cases h0
  · cases ns with
    | nil => cases hx
    | cons n r =>
      rw [List.map_cons] at hx
      cases hx
      rw [PySem.W.minD_ints] at hr
      cases hr
      exact ⟨.int _, H, I.kept k, ⟨_, rfl⟩, q⟩
def maxDF : List Int → Int → Option Int := fun ns d => some (maxD0 ns d)
def minDF : List Int → Int → Option Int := fun ns d => some (minD0 ns d)
theorem fe_maxK {x id : Str} {idn : String} {p : Pos} {g : List Int → Int → Int} {f : ε → Rs (List Int)} {fd : ε → Rs Int} {kpos : Pos} {td : TE} {ed : Expr} (hcr : CallRK X (.builtin idn) [Str.ofString "default"] (qMaxD X.K g)) (hg : Gl X x) (hm : X.mg x = none) (hv : bootBuiltins x = some (.builtin idn))
    (ha : FE D X K R ma e ta (rList rInt) f) (hd : FE D X K R mb ed td rInt fd) (hn : x ≠ "__name__" := by decide) (hdb : (x == ("__debug__" : Str)) = false := by decide)
    (hs : starEach (e :: []) X.env = (false, eval e X.env) :: starEach [] X.env := by rfl)
    (he : backTo pos (starEach (e :: []) X.env) = (false, eval e X.env) :: backTo pos (starEach [] X.env) := by rfl) (hpl : (backTo pos (starEach (e :: []) X.env)).any (·.1) = false := by rfl)
    (hall : (backToKw pos (keywordEach [⟨id, ed, kpos⟩] X.env)).all (·.1.isSome) = true := by rfl) (hnone : (backToKw pos (keywordEach [⟨id, ed, kpos⟩] X.env)).any (·.1.isNone) = false := by rfl) (hks : (backToKw pos (keywordEach [⟨id, ed, kpos⟩] X.env)).filterMap (·.1) = [Str.ofString "default"] := by rfl) :
    FE D X K R m (.Call (.Name x p) [e] [⟨id, ed, kpos⟩] pos) (tCKw (qMaxD K g) (tCons ta tNil) (tCons td tNil)) rInt (d2 (fun ns d => some (g ns d)) f fd) := by
  cases ha.hK
  refine ⟨rfl, pe_callBK hcr hg hm hv (pa_cons ha.pe pa_nil hs) (pk_cons hd.pe pk_nil) hn hdb he hpl hall hnone hks, fun H O F E σ I Q k => ?_⟩
  refine ha.sem H O F E σ I _ ((good_bind k).mono (fun ns _ k v H1 e1 r1 => hd.sem H1 O F E σ (I.same e1) _ ((good_bind k).mono (fun d _ k w H2 e2 r2 => ?_) fun c k H2 e2 => k H2 (e1.trans e2))) fun _ k => k)
  obtain ⟨q, vs, rfl, hp, hl, hv⟩ := (rList rInt).mono (hidM_sm e2) r1
  exact ⟨q, ns, d, rfl, by rw [show w = V.int d from r2], by rw [← paired_int hv]; exact .inl (.inl (hid_le.get _ _ hp)), k _ H2 (e1.trans e2) rfl⟩

/-! ### in, index -/
def inF [DecidableEq α] : α → List α → Option Bool := fun x xs => some (decide (x ∈ xs))
def notInF [DecidableEq α] : α → List α → Option Bool := fun x xs => some (!decide (x ∈ xs))
theorem inV_ints (x : Int) : ∀ xs : List Int, inV (.int x) (xs.map V.int) = decide (x ∈ xs)
  | [] => rfl
  | y :: ys => by
    have ih := inV_ints x ys
    unfold inV at ih ⊢
    rw [List.map_cons, List.any_cons, ih]
    show ((y == x) || _) = _
    by_cases h : y = x
    · simp [h]
    · simp [h, Ne.symm h]
theorem flat_ints : ∀ xs : List Int, (xs.map V.int).all flatV = true
  | [] => rfl
  | _ :: xs => by rw [List.map_cons, List.all_cons, flat_ints xs]; rfl
theorem b_inI : Bin K ma mb m (rIn K false) rInt (rList rInt) rBool inF := fun H O F x y z v w d h1 h2 e Q k => by
  cases e
  cases h1
  obtain ⟨p, vs, rfl, hp, hl, hv⟩ := h2
  have ev := paired_int hv
  exact ⟨p, vs, rfl, .inl (.inl (.inl (hid_le.get _ _ hp))), rfl, by rw [ev]; exact flat_ints y, k _ H (Same.refl H) (by rw [ev, inV_ints]; rfl)⟩
theorem b_notInI : Bin K ma mb m (rIn K true) rInt (rList rInt) rBool notInF := fun H O F x y z v w d h1 h2 e Q k => by
  cases e
  cases h1
  obtain ⟨p, vs, rfl, hp, hl, hv⟩ := h2
  have ev := paired_int hv
  exact ⟨p, vs, rfl, .inl (.inl (.inl (hid_le.get _ _ hp))), rfl, by rw [ev]; exact flat_ints y, k _ H (Same.refl H) (by rw [ev, inV_ints]; rfl)⟩
theorem any_eqv [DecidableEq α] (q : DEq r) (x : α) : ∀ xs : List α, ((xs.map q.toD).any fun z => PyData.eqv z (q.toD x)) = decide (x ∈ xs)
  | [] => rfl
  | y :: ys => by
    rw [List.map_cons, List.any_cons, any_eqv q x ys, q.eqv]
    by_cases h : y = x
    · simp [h]
    · simp [h, Ne.symm h]
theorem b_inD [DecidableEq α] (q : DEq r) (hn : q.n ≤ 63 := by first | decide | exact Nat.le_of_ble_eq_true rfl | exact Nat.lt_of_lt_of_le (Nat.lt_succ_self _) (Nat.le_of_ble_eq_true rfl)) : Bin K ma mb m (rInD K) r (rList r) rBool inF := fun H O F x y z v w d h1 h2 e Q k => by
  cases e
  exact ⟨q.toD x, y.map q.toD, q.dp (r.mono hidM_low h1), (qList q).dp ((rList r).mono hidM_low h2), q.shaped (by omega) x, (qList q).shaped (Nat.succ_le_succ hn) y, k _ H (Same.refl H) (by rw [any_eqv]; rfl)⟩
theorem b_notInD [DecidableEq α] (q : DEq r) (hn : q.n ≤ 63 := by first | decide | exact Nat.le_of_ble_eq_true rfl | exact Nat.lt_of_lt_of_le (Nat.lt_succ_self _) (Nat.le_of_ble_eq_true rfl)) : Bin K ma mb m (rNotInD K) r (rList r) rBool notInF := fun H O F x y z v w d h1 h2 e Q k => by
  cases e
  exact ⟨q.toD x, y.map q.toD, q.dp (r.mono hidM_low h1), (qList q).dp ((rList r).mono hidM_low h2), q.shaped (by omega) x, (qList q).shaped (Nat.succ_le_succ hn) y, k _ H (Same.refl H) (by rw [any_eqv]; rfl)⟩

/-! ### == of tuples, of rows of unlike things -/
structure DEqs (P : PD π) [DecidableEq π] where
  toD : π → List PyData
  n : Nat
  dp : ∀ {K : PySem.W.Frag} {H : Hp} {x : π} {vs : List V}, P.rel K H H x vs → DpAll K H vs (toD x)
  lay : ∀ x, PyData.canLayAll0 (toD x) = true
  dep : ∀ x, PyData.depthAll (toD x) ≤ n
  eqv : ∀ x y, PyData.eqvAll (toD x) (toD y) = decide (x = y)
def qsNil : DEqs pNil := ⟨fun _ => [], 0, fun h => by
  rw [show _ = [] from h]
  exact .nil, fun _ => by rw [PyData.canLayAll0], fun _ => by rw [PyData.depthAll]; exact Nat.le_refl _, fun x y => by rw [PyData.eqvAll]; rfl⟩
def qsC [DecidableEq α] [DecidableEq π] (q : DEq r) (qs : DEqs P) : DEqs (pC true r P) := ⟨fun x => q.toD x.1 :: qs.toD x.2, max q.n qs.n, fun ⟨v, us, h1, h2, h3⟩ => by
  rw [h1]
  exact .cons (q.dp h2) (qs.dp h3), fun x => by rw [PyData.canLayAll0, q.lay, qs.lay]; rfl, fun x => by rw [PyData.depthAll]; exact Nat.max_le.mpr ⟨Nat.le_trans (q.dep _) (Nat.le_max_left _ _), Nat.le_trans (qs.dep _) (Nat.le_max_right _ _)⟩,
  fun x y => by rw [PyData.eqvAll, q.eqv, qs.eqv, ← Bool.decide_and]; exact decide_eq_decide.mpr (by rw [Prod.ext_iff])⟩
def qTup [DecidableEq π] (qs : DEqs P) : DEq (rTup P) := ⟨fun x => .tuple (qs.toD x), qs.n + 1, fun ⟨p, vs, h1, h2, h3⟩ => by
  rw [h1]
  exact .tup (.inl (.inl h2)) (qs.dp h3), fun x => by rw [PyData.canLay0]; exact qs.lay x, fun x => by rw [PyData.depth]; exact Nat.succ_le_succ (qs.dep x), fun x y => by rw [PyData.eqv]; exact qs.eqv x y⟩
def qRow [DecidableEq π] (qs : DEqs P) : DEq (rRow P) := ⟨fun x => .list (qs.toD x), qs.n + 1, fun ⟨p, vs, h1, h2, h3⟩ => by
  rw [h1]
  exact .lst (.inl (.inl h2)) (qs.dp h3), fun x => by rw [PyData.canLay0]; exact qs.lay x, fun x => by rw [PyData.depth]; exact Nat.succ_le_succ (qs.dep x), fun x y => by rw [PyData.eqv]; exact qs.eqv x y⟩
theorem u65 {k : Nat} {A : Around} (r : Room k A) : A.units + 65 < cLine := by have := r.un; omega
end
end Fx

/-! Fx9: owned lists of owned lists. -/
namespace Fx
open PySem PySem.Spec L2
variable [Tbs]
theorem Paired.mapL {α β : Type} {F G : α → β → Prop} : ∀ {l₁ : List α} {l₂ : List β}, Paired F l₁ l₂ → (∀ a b, b ∈ l₂ → F a b → G a b) → Paired G l₁ l₂
  | _, _, .nil, _ => .nil
  | _, _, .cons r t, f => .cons (f _ _ List.mem_cons_self r) (Paired.mapL t fun a b h => f a b (List.mem_cons_of_mem _ h))
def rowAt {α : Type} (r : Rp α) (K : PySem.W.Frag) (H Hs : Hp) (xs : List α) (q : Addr) : Prop := ∃ vs, H q = some (.lst vs) ∧ xs.length ≤ sizeLine ∧ Paired (r.rp K Hs) xs vs
theorem rowAt.imp {α : Type} {r : Rp α} {K : PySem.W.Frag} {H H' Hs Hs' : Hp} {xs : List α} {q : Addr} (h : rowAt r K H Hs xs q) (e : Wk Hs Hs') (k : ∀ o, H q = some o → NT o → H' q = some o) : rowAt r K H' Hs' xs q := by
  obtain ⟨vs, h1, h2, h3⟩ := h
  exact ⟨vs, k _ h1 nt_lst, h2, Paired.imp h3 fun _ _ => r.mono e⟩
def oList2 {α : Type} (r : Rp α) : Ro (List (List α)) where
  rp := fun K H Hs xss v F => ∃ p qs, v = .ref p ∧ F = p :: qs ∧ H p = some (.lst (qs.map V.ref)) ∧ xss.length ≤ sizeLine ∧ Paired (rowAt r K H Hs) xss qs
  sh := rList (rList r)
  frame := fun ⟨p, qs, h1, h2, h3, hl, h4⟩ e k => ⟨p, qs, h1, h2, k p (by rw [h2]; simp) _ h3 nt_lst, hl, Paired.mapL h4 fun xs q hq z => z.imp e (k q (by rw [h2]; simp [hq]))⟩
  toSh := fun {K H Hs xss v F} ⟨p, qs, h1, h2, h3, hl, h4⟩ e => ⟨p, qs.map V.ref, h1, h3, hl, by
    have : ∀ {xss : List (List α)} {qs : List Addr}, Paired (rowAt r K H Hs) xss qs → Paired ((rList r).rp K H) xss (qs.map V.ref) := by
      intro xss qs h
      induction h with
      | nil => exact .nil
      | cons a _ ih =>
        obtain ⟨vs, z1, z2, z3⟩ := a
        exact .cons ⟨_, vs, rfl, z1, z2, Paired.imp z3 fun _ _ => r.mono e⟩ ih
    exact this h4⟩
section
variable {ε ε' ε1 ε2 ρ α β γ π : Type} {D : EnvD ε} {X : Cx} {K : PySem.W.Frag} {R : Str → Hp → Prop} {rr : RetD ρ} {m m' ma mb mi : Md} {st : Stmt} {sts : List Stmt} {te ta tb : TE} {e a b c : Expr} {r : Rp α} {ra : Rp α} {rb : Rp β} {rc : Rp γ} {pos pos' : Pos} {P : PD π} {o : Ro α}

/-! ### stores of whole owned things -/
theorem sem_setG {K : PySem.W.Frag} {i : Nat} {gt : ε → Option α} {p : ε → Option α → ε} {f : ε → Rs α} (L : Ln D D i (sO o) (sO o) gt p)
    (h : ∀ (H : Hp) (O F : List Addr) (E : ε) (σ : L2.St), RelF D K H O F E σ → ∀ Q : VK, Good (f E) (fun a => ∀ v H' F', Same H H' → (∀ p ∈ F', H p = none) → F'.Nodup → (∀ p ∈ F', ∃ u, H' p = some u) → o.rp K H' (hid (O ++ F ++ F') H') a v F' → Q v H') (fun c => ∀ H', Same H H' → R c H') → te σ H Q) :
    SemS D K R rr (tAsg te (gName i)) (dSet (ρ := ρ) p f) := fun H O F E σ I Dn k =>
  h H O F E σ I _ ((good_bind k).mono (fun x _ k v H1 F1 e1 n1 nd d1 r1 => by
    obtain ⟨F2, s2, I2⟩ := I.own L (x := some x) (w := some v) e1 n1 nd d1 fun F2 sub => ⟨(fun z => nomatch z), fun a ha => ⟨v, rfl, by
      cases ha
      exact o.frame r1 (hid_sub fun q hq => by
        rcases List.mem_append.mp hq with z | z
        · simp [z]
        · rcases sub q z with z | z <;> simp [z]) fun _ _ _ z _ => z⟩⟩
    exact k _ H1 F2 s2 I2) fun c k => exS k)
theorem fs_setG {i : Nat} {x : Str} {gt : ε → Option α} {p : ε → Option α → ε} {f : ε → Rs α} (L : Ln D D i (sO o) (sO o) gt p) (hN : X.N.Nodup) (he : FN D X K R e te o f) (hi : X.N[i]? = some x := by rfl) (hx : Loc X.env.scope x := by first | exact .inl rfl | exact .inr rfl) (hs : swapsWith e (some (.Name x pos')) pos.line X.env = pure false := by rfl)
    (hf : X.fn x = true ∨ X.env.scope.names.lookup x = some .local := by first | exact .inl rfl | exact .inr rfl) : FS D X K R rr (.Assign [.Name x pos'] e pos) (tAsg te (gName i)) (dSet (ρ := ρ) p f) := by
  cases he.hK
  exact ⟨rfl, ps_set hN hi hx he.pe hs hf, sem_setG L he.sem⟩
theorem fs_retG {i : Nat} {x : Str} {o : Ro ρ} {gt : ε → Option ρ} {p : ε → Option ρ → ε} {px : Pos} (L : Ln D D i (sO o) (sO o) gt p) (hN : X.N[i]? = some x := by rfl) (hv : Vis X.env.scope x := by first | exact Or.inl rfl | exact Or.inr (Or.inl rfl) | exact Or.inr (Or.inr rfl))
    (hd : (x == ("__debug__" : Str)) = false := by decide) (hcd : (x == ("__classdict__" : Str)) = false := by decide) (hK : X.K = K := by rfl) : FS D X K R (retO o) (.Return (some (.Name x px)) pos) (tRet (tVar i)) (fun E => (ofO (gt E)).bind fun a => .ok (.rt a) : ε → Rs (Fl ε ρ)) := by
  cases hK
  refine ⟨rfl, ps_ret (pe_var hN hv hd hcd), fun H O F E σ I Dn k => ?_⟩
  obtain ⟨F1, w, h1, nd, h2, h3, _⟩ := RelF.slot (p := p) L I
  have k := good_bind k
  cases eg : gt E with
  | none => rw [eg] at k; exact k.elim
  | some a =>
    rw [eg] at k h3
    obtain ⟨v, e1, e2⟩ := h3.2 a rfl
    subst e1
    exact ⟨v, h2, k v H F1 (Stab.of_same (Same.refl H)) (fun q hq => .inl (h1 q hq)) nd (fun q hq => I.dom q (List.mem_append_right _ (h1 q hq))) (o.frame e2 (hid_sub fun q hq => by
      rcases List.mem_append.mp hq with z | z
      · exact List.mem_append_left _ z
      · exact List.mem_append_right _ (h1 q z)) fun _ _ _ z _ => z)⟩
/-- [] as an owned list of lists -/
theorem fn_nil2 (hK : X.K = K := by rfl) : FN D X K R (.List [] pos) (tLst tNil) (oList2 r) (dC ([] : List (List α))) := by
  cases hK
  refine ⟨rfl, pe_lst pa_nil, fun H O F E σ I Q k => ⟨Nat.zero_le _, fun p hp => ?_⟩⟩
  exact k _ _ [p] (Fx.same_upd hp) (fun q hq => by rw [List.mem_singleton.mp hq]; exact hp) (List.nodup_cons.mpr ⟨by simp, List.nodup_nil⟩) (fun q hq => ⟨.lst [], by rw [List.mem_singleton.mp hq]; exact upd_same⟩) ⟨p, [], rfl, rfl, upd_same, Nat.zero_le _, .nil⟩

/-! ### a list of owned rows, read and changed -/
theorem l2_at {K : PySem.W.Frag} {i : Nat} {gt : ε → Option (List (List α))} {p : ε → Option (List (List α)) → ε} (L : Ln D D i (sO (oList2 r)) (sO (oList2 r)) gt p) {H : Hp} {O F : List Addr} {E : ε} {σ : L2.St} (I : RelF D K H O F E σ) {xss : List (List α)} (hx : gt E = some xss) :
    ∃ a qs, σ[i]? = some (some (.ref a)) ∧ H a = some (.lst (qs.map V.ref)) ∧ xss.length ≤ sizeLine ∧ a ∈ F ∧ (∀ q ∈ qs, q ∈ F) ∧ (a :: qs).Nodup ∧ Paired (rowAt r K H (hid (O ++ F) H)) xss qs ∧
      -- a row's items change
      (∀ (k : Nat) (q : Addr) (ys : List α) (ws : List V), qs[k]? = some q → ys.length ≤ sizeLine → Paired (r.rp K (hid (O ++ F) H)) ys ws → Step F H F (upd H q (.lst ws)) ∧ RelF D K (upd H q (.lst ws)) O F (p E (some (xss.set k ys))) σ) ∧
      -- rows are exchanged, come new
      (∀ (H1 : Hp) (yss : List (List α)) (qs' : List Addr), Stab [a] H H1 → H1 a = some (.lst (qs'.map V.ref)) → yss.length ≤ sizeLine → (a :: qs').Nodup → (∀ q ∈ qs', q ∈ qs ∨ H q = none) → (∀ q ∈ qs', ∃ u, H1 q = some u) →
        (∀ F2, (∀ q ∈ F2, q ∈ F ∨ q ∈ qs') → Paired (rowAt r K H1 (hid (O ++ F2) H1)) yss qs') → ∃ F2, Step F H F2 H1 ∧ RelF D K H1 O F2 (p E (some yss)) σ) := by
  obtain ⟨F1, w, sub, nd1, hw, hs, cl⟩ := RelF.slot L I
  rw [hx] at hs
  obtain ⟨v, rfl, a, qs, e2, e3, e4, e5, e6⟩ := hs.2 xss rfl
  subst e2 e3
  have ha : a ∈ F := sub a (by simp)
  have hqs : ∀ q ∈ qs, q ∈ F := fun q hq => sub q (by simp [hq])
  refine ⟨a, qs, hw, e4, e5, ha, hqs, nd1, e6, fun k q ys ws hq hl hp => ?_, fun H1 yss qs' keep h1 hl nd2 new dm rows => ?_⟩
  · have hqm : q ∈ qs := List.mem_of_getElem? hq
    have hqF := hqs q hqm
    obtain ⟨xs0, ws0, hq0⟩ : ∃ (xs0 : List α) (ws0 : List V), H q = some (.lst ws0) := by
      obtain ⟨y, _, vs, z, _⟩ := Paired.getR e6 hq
      exact ⟨[], vs, z⟩
    have hqa : a ≠ q := fun z => (List.nodup_cons.mp nd1).1 (z ▸ hqm)
    obtain ⟨F2, eqF, m2, m1, st, fin⟩ := cl (upd H q (.lst ws)) (a :: qs) ((stab_upd hq0).sub fun b hb => by rw [List.mem_singleton.mp hb]; simp [hqm]) (fun b hb => .inl hb) nd1 (fun b hb => by
      by_cases z : b = q
      · rw [z]; exact ⟨_, upd_same⟩
      · obtain ⟨u, y⟩ := I.dom b (List.mem_append_right _ (sub b hb))
        exact ⟨u, by rw [upd_ne z]; exact y⟩)
    have e := eqF rfl
    subst e
    have hsm := hid_upd_in (O := O) (H := H) (u := HO.lst ws) hqF
    have r2 := fin (some (xss.set k ys)) (some (.ref a)) ⟨(fun z => nomatch z), fun y hy => by
      cases hy
      refine ⟨.ref a, rfl, a, qs, rfl, rfl, by rw [upd_ne hqa]; exact e4, by rw [List.length_set]; exact e5, ?_⟩
      have key : ∀ {xss : List (List α)} {qs : List Addr} (k : Nat), qs.Nodup → qs[k]? = some q → Paired (rowAt r K H (hid (O ++ F2) H)) xss qs → Paired (rowAt r K (upd H q (.lst ws)) (hid (O ++ F2) (upd H q (.lst ws)))) (xss.set k ys) qs := by
        intro xss qs k nd hk hpr
        induction hpr generalizing k with
        | nil => cases hk
        | @cons xs q0 xss qs hr hrs ih =>
          cases k with
          | zero =>
            have e : q0 = q := by simpa using hk
            subst e
            refine .cons ⟨ws, upd_same, hl, Paired.imp hp fun _ _ => r.mono hsm⟩ ?_
            exact Paired.mapL hrs fun xs b hb z => z.imp hsm fun u hu _ => by
              rw [upd_ne (show b ≠ q0 from fun y => (List.nodup_cons.mp nd).1 (y ▸ hb))]; exact hu
          | succ k =>
            have hk' : qs[k]? = some q := by simpa using hk
            refine .cons (hr.imp hsm fun u hu _ => ?_) (ih k (List.nodup_cons.mp nd).2 hk')
            rw [upd_ne (show q0 ≠ q from fun y => (List.nodup_cons.mp nd).1 (y ▸ List.mem_of_getElem? hk'))]
            exact hu
      exact key k (List.nodup_cons.mp nd1).2 hq e6⟩
    rw [set_self hw] at r2
    exact ⟨st, r2⟩
  · obtain ⟨F2, eqF, m2, m1, st, fin⟩ := cl H1 (a :: qs') (keep.sub fun b hb => by rw [List.mem_singleton.mp hb]; simp) (fun b hb => by
      rcases List.mem_cons.mp hb with z | z
      · exact .inl (by rw [z]; simp)
      · rcases new b z with y | y
        · exact .inl (by simp [y])
        · exact .inr y) nd2 (fun b hb => by
      rcases List.mem_cons.mp hb with z | z
      · rw [z]; exact ⟨_, h1⟩
      · exact dm b z)
    have r2 := fin (some yss) (some (.ref a)) ⟨(fun z => nomatch z), fun y hy => by
      cases hy
      refine ⟨.ref a, rfl, a, qs', rfl, rfl, h1, hl, rows F2 fun q hq => ?_⟩
      rcases m2 q hq with z | z
      · rcases List.mem_cons.mp z with y | y
        · exact .inl (by rw [y]; exact ha)
        · exact .inr y
      · exact .inl z.1⟩
    rw [set_self hw] at r2
    exact ⟨F2, st, r2⟩
theorem map_ref_get {qs : List Addr} {k : Nat} {v : V} (h : (qs.map V.ref)[k]? = some v) : ∃ q, qs[k]? = some q ∧ v = .ref q := by
  rw [List.getElem?_map] at h
  cases e : qs[k]? with
  | none => rw [e] at h; cases h
  | some q => rw [e] at h; cases h; exact ⟨q, rfl, rfl⟩
theorem atI_ref {qs : List Addr} {xss : List (List α)} {K : PySem.W.Frag} {H Hs : Hp} (hp : Paired (rowAt r K H Hs) xss qs) {i : Int} {j : Nat} (h : ixN xss.length i = some j) : ∃ q xs, qs[j]? = some q ∧ xss[j]? = some xs ∧ atI (qs.map V.ref) i = some (.ref q) ∧ rowAt r K H Hs xs q := by
  have hj := (ixN_seq h).2.1
  have hx : xss[j]? = some xss[j] := List.getElem?_eq_getElem hj
  obtain ⟨q, h1, h2⟩ := Paired.get hp hx
  refine ⟨q, xss[j], h1, hx, ?_, h2⟩
  unfold atI
  rw [List.length_map, ← Paired.len hp, h, Option.bind_some, List.getElem?_map, h1]
  rfl
/-- x[i][j] = e -/
def dSet2 (gt : ε → Option (List (List α))) (p : ε → Option (List (List α)) → ε) (fi fj : ε → Rs Int) (f : ε → Rs α) : ε → Rs (Fl ε ρ) := fun E => (f E).bind fun a => (ofO (gt E)).bind fun xss => (fi E).bind fun i => (ofO (ixN xss.length i)).bind fun k => (ofO xss[k]?).bind fun xs =>
  (fj E).bind fun j => (ofO (ixN xs.length j)).bind fun l => .ok (.nx (p E (some (xss.set k (xs.set l a)))))
section
variable {i : Nat} {x : Str} {px p1 p2 tpos : Pos} {gt : ε → Option (List (List α))} {p : ε → Option (List (List α)) → ε} {fi fj : ε → Rs Int} {ti tj : TE} {ix jx : Expr}
theorem fs_set2 {f : ε → Rs α} (L : Ln D D i (sO (oList2 r)) (sO (oList2 r)) gt p) (he : FE D X K R mS e te r f) (hx1 : FE D X K R ma ix ti rInt fi) (hx2 : FE D X K R mb jx tj rInt fj) (hi : X.N[i]? = some x := by rfl)
    (hv : Vis X.env.scope x := by first | exact Or.inl rfl | exact Or.inr (Or.inl rfl) | exact Or.inr (Or.inr rfl)) (hd : (x == ("__debug__" : Str)) = false := by decide) (hcd : (x == ("__classdict__" : Str)) = false := by decide) (hpl : PlainIx ix := by intro _ _; rfl)
    (ha : ∀ v, assign (.Subscript (.Subscript (.Name x px) ix p1) jx tpos) X.env v = (do
      let ov ← holding [v] (eval (.Subscript (.Name x px) ix p1) X.env)
      let iv ← holding [v, ov] (eval jx X.env)
      standAt tpos
      holding [v, ov, iv] (setItem ov iv v)
      release [v, ov, iv] []) := by intro _; rfl)
    (hs : swapsWithSole [.Subscript (.Subscript (.Name x px) ix p1) jx tpos] e pos.line X.env = pure false := by rfl) (hw : swappedStores [.Subscript (.Subscript (.Name x px) ix p1) jx tpos] e X.env = pure none := by rfl)
    (h1 : (assignEach [.Subscript (.Subscript (.Name x px) ix p1) jx tpos] X.env).map (·.2) = [assign (.Subscript (.Subscript (.Name x px) ix p1) jx tpos) X.env] := by rfl) :
    FS D X K R rr (.Assign [.Subscript (.Subscript (.Name x px) ix p1) jx tpos] e pos) (tAsg te (gSub (tOp (rIxL K) (tVar i) ti) tj rSetL)) (dSet2 (ρ := ρ) gt p fi fj f) := by
  cases he.hK
  refine ⟨rfl, ps_asg he.pe (pg_sub (pe_ix ix_list (pe_var hi hv hd hcd) hx1.pe hpl) hx2.pe set_list ha) hs hw h1, fun H O F E σ I Dn k => he.sem H O F E σ I _ ((good_bind k).mono (fun a _ k v H1 e1 r1 => ?_) fun c k => exS k)⟩
  have k := good_bind k
  have I1 := I.same e1
  cases eg : gt E with
  | none => rw [eg] at k; exact k.elim
  | some xss =>
    rw [eg] at k
    have k := good_bind (show Good ((fi E).bind _) _ _ from k)
    obtain ⟨a0, qs0, z0, _⟩ := l2_at L I1 eg
    refine ⟨.ref a0, z0, hx1.sem H1 O F E σ I1 _ (k.mono (fun i1 _ k w H2 e2 r2 => ?_) fun c k H2 e2 => exS k H2 (e1.trans e2))⟩
    have I2 := I1.same e2
    obtain ⟨a1, qs, y0, y1, y2, y3, y4, y5, y6, _⟩ := l2_at L I2 eg
    rw [z0] at y0
    cases y0
    have k := good_bind k
    cases ei : ixN xss.length i1 with
    | none => rw [ei] at k; exact k.elim
    | some kk =>
      rw [ei] at k
      obtain ⟨q, xs, g1, g2, g3, g4⟩ := atI_ref y6 ei
      have k := good_bind (show Good ((ofO xss[kk]?).bind _) _ _ from k)
      rw [g2] at k
      have k := good_bind (show Good ((fj E).bind _) _ _ from k)
      refine ⟨a0, qs.map V.ref, i1, .ref q, rfl, r2, .inl (.inl y1), g3, hx2.sem H2 O F E σ I2 _ (k.mono (fun j1 _ k u H3 e3 r3 => ?_) fun c k H3 e3 => exS k H3 ((e1.trans e2).trans e3))⟩
      have I3 := I2.same e3
      obtain ⟨a2, qs2, x0, x1, x2, x3, x4, x5, x6, x7, _⟩ := l2_at L I3 eg
      rw [z0] at x0
      cases x0
      have eq : qs2 = qs := by
        have := (e3.get _ _ y1).symm.trans x1
        have h := HO.lst.inj (Option.some.inj this)
        have : Function.Injective V.ref := fun _ _ h => V.ref.inj h
        exact ((List.map_inj_right (fun _ _ h => V.ref.inj h)).mp h).symm
      subst eq
      cases ej : ixN xs.length j1 with
      | none => rw [ej] at k; exact k.elim
      | some l =>
        rw [ej] at k
        obtain ⟨vs, w1, w2, w3⟩ := (g4.imp (hid_sm e3) fun o h nt => e3.wk.get _ _ h nt)
        obtain ⟨s4, I4⟩ := x7 kk q (xs.set l a) (vs.set l v) g1 (by rw [List.length_set]; exact w2) (Paired.st (r.mono (hidM_sm (e2.trans e3)) r1) l w3)
        exact ⟨q, vs, j1, l, rfl, r3, w1, by rw [← Paired.len w3]; exact ej, k _ _ F ((Step.same ((e1.trans e2).trans e3)).trans s4) I4⟩
/-- x[i] = a new list -/
def dSetR (gt : ε → Option (List (List α))) (p : ε → Option (List (List α)) → ε) (fi : ε → Rs Int) (f : ε → Rs (List α)) : ε → Rs (Fl ε ρ) := fun E => (f E).bind fun a => (ofO (gt E)).bind fun xss => (fi E).bind fun i => (ofO (ixN xss.length i)).bind fun k => .ok (.nx (p E (some (xss.set k a))))
theorem paired_same {xss : List (List α)} {qs : List Addr} {K : PySem.W.Frag} {H H1 Hs Hs' : Hp} (h : Paired (rowAt r K H Hs) xss qs) (e : Wk Hs Hs') (k : ∀ q ∈ qs, ∀ o, H q = some o → NT o → H1 q = some o) : Paired (rowAt r K H1 Hs') xss qs := Paired.mapL h fun xs q hq z => z.imp e (k q hq)
theorem nodup_set {q1 : Addr} : ∀ {qs : List Addr}, qs.Nodup → (∀ q ∈ qs, q ≠ q1) → ∀ k : Nat, (qs.set k q1).Nodup
  | [], _, _, _ => List.nodup_nil
  | q :: qs, nd, h, 0 => List.nodup_cons.mpr ⟨fun z => h q1 (List.mem_cons_of_mem _ z) rfl, (List.nodup_cons.mp nd).2⟩
  | q :: qs, nd, h, k + 1 => List.nodup_cons.mpr ⟨fun z => by
      rcases List.mem_or_eq_of_mem_set z with z | z
      · exact (List.nodup_cons.mp nd).1 z
      · exact h q List.mem_cons_self z, nodup_set (List.nodup_cons.mp nd).2 (fun b hb => h b (List.mem_cons_of_mem _ hb)) k⟩
theorem hid_own {O F : List Addr} {H1 : Hp} {q1 : Addr} {F2 : List Addr} (sub : ∀ q ∈ F2, q ∈ F ∨ q = q1) : Wk (hid (O ++ F ++ [q1]) H1) (hid (O ++ F2) H1) := hid_sub fun q hq => by
  rcases List.mem_append.mp hq with z | z
  · simp [z]
  · rcases sub q z with z | z <;> simp [z]
theorem fs_setR {f : ε → Rs (List α)} (L : Ln D D i (sO (oList2 r)) (sO (oList2 r)) gt p) (he : FN D X K R e te (oList r) f) (hx : FE D X K R m ix ti rInt fi) (hi : X.N[i]? = some x := by rfl)
    (hv : Vis X.env.scope x := by first | exact Or.inl rfl | exact Or.inr (Or.inl rfl) | exact Or.inr (Or.inr rfl)) (hd : (x == ("__debug__" : Str)) = false := by decide) (hcd : (x == ("__classdict__" : Str)) = false := by decide)
    (ha : ∀ v, assign (.Subscript (.Name x px) ix tpos) X.env v = (do
      let ov ← holding [v] (eval (.Name x px) X.env)
      let iv ← holding [v, ov] (eval ix X.env)
      standAt tpos
      holding [v, ov, iv] (setItem ov iv v)
      release [v, ov, iv] []) := by intro _; rfl)
    (hs : swapsWithSole [.Subscript (.Name x px) ix tpos] e pos.line X.env = pure false := by rfl) (hw : swappedStores [.Subscript (.Name x px) ix tpos] e X.env = pure none := by rfl)
    (h1 : (assignEach [.Subscript (.Name x px) ix tpos] X.env).map (·.2) = [assign (.Subscript (.Name x px) ix tpos) X.env] := by rfl) :
    FS D X K R rr (.Assign [.Subscript (.Name x px) ix tpos] e pos) (tAsg te (gSub (tVar i) ti rSetL)) (dSetR (ρ := ρ) gt p fi f) := by
  cases he.hK
  refine ⟨rfl, ps_asg he.pe (pg_sub (pe_var hi hv hd hcd) hx.pe set_list ha) hs hw h1, fun H O F E σ I Dn k => he.sem H O F E σ I _ ((good_bind k).mono (fun ys _ k v H1 F1 e1 n1 nd1 d1 r1 => ?_) fun c k => exS k)⟩
  obtain ⟨q1, ws, rfl, rfl, b1, b2, b3⟩ := r1
  have hq1 : H q1 = none := n1 q1 (by simp)
  have k := good_bind k
  have I1 := I.same e1
  cases eg : gt E with
  | none => rw [eg] at k; exact k.elim
  | some xss =>
    rw [eg] at k
    have k := good_bind (show Good ((fi E).bind _) _ _ from k)
    obtain ⟨a0, qs0, z0, z1, _⟩ := l2_at L I1 eg
    refine ⟨.ref a0, z0, hx.sem H1 O F E σ I1 _ (k.mono (fun i1 _ k w H2 e2 r2 => ?_) fun c k H2 e2 => exS k H2 (e1.trans e2))⟩
    obtain ⟨a, qs, y0, y1, y2, y3, y4, y5, y6, _, y8⟩ := l2_at L I eg
    rw [z0] at y0
    cases y0
    have e12 := e1.trans e2
    cases ei : ixN xss.length i1 with
    | none => rw [ei] at k; exact k.elim
    | some kk =>
      rw [ei] at k
      have hla : q1 ≠ a0 := fun z => by rw [z, y1] at hq1; cases hq1
      have hlq : ∀ q ∈ qs, q ≠ q1 := fun q hq z => by
        obtain ⟨u, y⟩ := I.dom q (List.mem_append_right _ (y4 q hq))
        rw [z, hq1] at y; cases y
      have b2' := e2.get _ _ b1
      obtain ⟨F2, s2, I2⟩ := y8 (upd H2 a0 (.lst ((qs.set kk q1).map V.ref))) (xss.set kk ys) (qs.set kk q1) (e12.stab (e12.get _ _ y1)) upd_same (by rw [List.length_set]; exact y2)
        (List.nodup_cons.mpr ⟨fun z => by
          rcases List.mem_or_eq_of_mem_set z with z | z
          · exact (List.nodup_cons.mp y5).1 z
          · exact hla z.symm, by
          exact nodup_set (List.nodup_cons.mp y5).2 hlq kk⟩)
        (fun q hq => by
          rcases List.mem_or_eq_of_mem_set hq with z | z
          · exact .inl z
          · exact .inr (by rw [z]; exact hq1))
        (fun q hq => by
          by_cases z : q = a0
          · rw [z]; exact ⟨_, upd_same⟩
          · rcases List.mem_or_eq_of_mem_set hq with y | y
            · obtain ⟨u, x⟩ := I.dom q (List.mem_append_right _ (y4 q y))
              rw [upd_ne z]; exact e12.dom x
            · exact ⟨_, by rw [upd_ne z, y]; exact b2'⟩)
        (fun F2 sub => by
          have hF : ∀ q ∈ F2, q ∈ F ∨ q = q1 := fun q hq => by
            rcases sub q hq with z | z
            · exact .inl z
            · rcases List.mem_or_eq_of_mem_set z with z | z
              · exact .inl (y4 q z)
              · exact .inr z
          have hs1 : Wk (hid (O ++ F) H) (hid (O ++ F2) (upd H2 a0 (.lst ((qs.set kk q1).map V.ref)))) := .mk fun q u hq nt => by
            obtain ⟨c1, c2⟩ := hid_some hq
            rw [hid_out, upd_ne (fun z => c1 (by rw [z]; exact List.mem_append_right _ y3))]
            · exact e12.wk.get _ _ c2 nt
            · intro z
              rcases List.mem_append.mp z with z | z
              · exact c1 (List.mem_append_left _ z)
              · rcases hF q z with z | z
                · exact c1 (List.mem_append_right _ z)
                · rw [z, hq1] at c2; cases c2
          have hs2 : Wk (hid (O ++ F ++ [q1]) H1) (hid (O ++ F2) (upd H2 a0 (.lst ((qs.set kk q1).map V.ref)))) := .mk fun q u hq nt => by
            obtain ⟨c1, c2⟩ := hid_some hq
            rw [hid_out, upd_ne (fun z => c1 (by rw [z]; simp [y3]))]
            · exact e2.wk.get _ _ c2 nt
            · intro z
              rcases List.mem_append.mp z with z | z
              · exact c1 (by simp [z])
              · rcases hF q z with z | z
                · exact c1 (by simp [z])
                · exact c1 (by simp [z])
          refine Paired.st ⟨ws, by rw [upd_ne hla]; exact b2', b2, Paired.imp b3 fun _ _ => r.mono hs2⟩ kk (paired_same y6 hs1 fun q hq u hu nt => ?_)
          rw [upd_ne (show q ≠ a0 from fun z => (List.nodup_cons.mp y5).1 (z ▸ hq))]
          exact e12.wk.get _ _ hu nt)
      refine ⟨a0, qs.map V.ref, i1, kk, rfl, r2, e12.get _ _ y1, by rw [List.length_map, ← Paired.len y6]; exact ei, ?_⟩
      rw [← List.map_set]
      exact k σ _ F2 s2 I2
/-- x.append(a new list) -/
noncomputable def dAppR (gt : ε → Option (List (List α))) (p : ε → Option (List (List α)) → ε) (f : ε → Rs (List α)) : ε → Rs (Fl ε ρ) := fun E => (ofO (gt E)).bind fun xss => (f E).bind fun a => cIf (xss.length < sizeLine) (.ok (.nx (p E (some (xss ++ [a]))))) .bad
theorem fs_appR {f : ε → Rs (List α)} {apos cpos : Pos} (L : Ln D D i (sO (oList2 r)) (sO (oList2 r)) gt p) (he : FN D X K R e te (oList r) f) (hi : X.N[i]? = some x := by rfl)
    (hv : Vis X.env.scope x := by first | exact Or.inl rfl | exact Or.inr (Or.inl rfl) | exact Or.inr (Or.inr rfl)) (hd : (x == ("__debug__" : Str)) = false := by decide) (hcd : (x == ("__classdict__" : Str)) = false := by decide)
    (hbase : attributeBase (.Name x px) "append" X.env (eval (.Name x px) X.env) = eval (.Name x px) X.env := by rfl)
    (hfew : ((backTo cpos (starEach (e :: []) X.env)).all (fun x => !x.1) && (backToKw cpos (keywordEach [] X.env)).all (fun x => x.1.isSome)
      && decide ((e :: []).length + ([] : List Keyword).length + (if ([] : List Keyword).isEmpty then 0 else 1) < 30)) = true := by rfl)
    (hline : (apos.endLine == cpos.line) = true := by rfl) (hs : starEach (e :: []) X.env = (false, eval e X.env) :: starEach [] X.env := by rfl) (hplain : (backTo cpos (starEach [] X.env)).any (·.1) = false := by rfl)
    (hsw : swapsWith (.Call (.Attribute (.Name x px) "append" apos) [e] [] cpos) none pos.line X.env = pure false := by rfl) :
    FS D X K R rr (.Expr (.Call (.Attribute (.Name x px) "append" apos) [e] [] cpos) pos) (tDrop (tBM K "list" rAppend (tVar i) (tCons te tNil))) (dAppR (ρ := ρ) gt p f) := by
  cases he.hK
  refine ⟨rfl, ps_expr (pe_bm PySem.F.plainAttrs_list PySem.F.slot_list_append PySem.F.type_list_append mt_append (pe_var hi hv hd hcd) (pa_cons he.pe pa_nil hs) hbase hfew hline hs hplain) hsw, fun H O F E σ I Dn k => ?_⟩
  have k := good_bind k
  cases eg : gt E with
  | none => rw [eg] at k; exact k.elim
  | some xss =>
    rw [eg] at k
    have k := good_bind (show Good ((f E).bind _) _ _ from k)
    obtain ⟨a0, qs, z0, y1, y2, y3, y4, y5, y6, _, y8⟩ := l2_at L I eg
    refine ⟨.ref a0, z0, .inl ⟨rfl, _, .inl (.inl y1)⟩, he.sem H O F E σ I _ (k.mono (fun ys _ k v H1 F1 e1 n1 nd1 d1 r1 => ?_) fun c k => exS k)⟩
    obtain ⟨q1, ws, rfl, rfl, b1, b2, b3⟩ := r1
    have hq1 : H q1 = none := n1 q1 (by simp)
    have hla : q1 ≠ a0 := fun z => by rw [z, y1] at hq1; cases hq1
    have hlq : ∀ q ∈ qs, q ≠ q1 := fun q hq z => by
      obtain ⟨u, y⟩ := I.dom q (List.mem_append_right _ (y4 q hq))
      rw [z, hq1] at y; cases y
    by_cases c : xss.length < sizeLine
    · rw [cIf_pos c] at k
      obtain ⟨F2, s2, I2⟩ := y8 (upd H1 a0 (.lst ((qs ++ [q1]).map V.ref))) (xss ++ [ys]) (qs ++ [q1]) (e1.stab (e1.get _ _ y1)) upd_same (by rw [List.length_append]; exact c)
        (List.nodup_cons.mpr ⟨fun z => by
          rcases List.mem_append.mp z with z | z
          · exact (List.nodup_cons.mp y5).1 z
          · exact hla (List.mem_singleton.mp z).symm, List.nodup_append.mpr ⟨(List.nodup_cons.mp y5).2, List.nodup_cons.mpr ⟨by simp, List.nodup_nil⟩, fun b hb d hd => by rw [List.mem_singleton.mp hd]; exact hlq b hb⟩⟩)
        (fun q hq => by
          rcases List.mem_append.mp hq with z | z
          · exact .inl z
          · exact .inr (by rw [List.mem_singleton.mp z]; exact hq1))
        (fun q hq => by
          by_cases z : q = a0
          · rw [z]; exact ⟨_, upd_same⟩
          · rcases List.mem_append.mp hq with y | y
            · obtain ⟨u, x⟩ := I.dom q (List.mem_append_right _ (y4 q y))
              rw [upd_ne z]; exact e1.dom x
            · exact ⟨.lst ws, by rw [upd_ne z, List.mem_singleton.mp y]; exact b1⟩)
        (fun F2 sub => by
          have hF : ∀ q ∈ F2, q ∈ F ∨ q = q1 := fun q hq => by
            rcases sub q hq with z | z
            · exact .inl z
            · rcases List.mem_append.mp z with z | z
              · exact .inl (y4 q z)
              · exact .inr (List.mem_singleton.mp z)
          have hs1 : Wk (hid (O ++ F) H) (hid (O ++ F2) (upd H1 a0 (.lst ((qs ++ [q1]).map V.ref)))) := .mk fun q u hq nt => by
            obtain ⟨c1, c2⟩ := hid_some hq
            rw [hid_out, upd_ne (fun z => c1 (by rw [z]; exact List.mem_append_right _ y3))]
            · exact e1.wk.get _ _ c2 nt
            · intro z
              rcases List.mem_append.mp z with z | z
              · exact c1 (List.mem_append_left _ z)
              · rcases hF q z with z | z
                · exact c1 (List.mem_append_right _ z)
                · rw [z, hq1] at c2; cases c2
          have hs2 : Wk (hid (O ++ F ++ [q1]) H1) (hid (O ++ F2) (upd H1 a0 (.lst ((qs ++ [q1]).map V.ref)))) := .mk fun q u hq nt => by
            obtain ⟨c1, c2⟩ := hid_some hq
            rw [hid_out, upd_ne (fun z => c1 (by rw [z]; simp [y3]))]
            · exact c2
            · intro z
              rcases List.mem_append.mp z with z | z
              · exact c1 (by simp [z])
              · rcases hF q z with z | z
                · exact c1 (by simp [z])
                · exact c1 (by simp [z])
          refine Paired.app (paired_same y6 hs1 fun q hq u hu nt => ?_) (.cons ⟨ws, by rw [upd_ne hla]; exact b1, b2, Paired.imp b3 fun _ _ => r.mono hs2⟩ .nil)
          rw [upd_ne (show q ≠ a0 from fun z => (List.nodup_cons.mp y5).1 (z ▸ hq))]
          exact e1.wk.get _ _ hu nt)
      refine ⟨a0, qs.map V.ref, .ref q1, rfl, rfl, e1.get _ _ y1, by rw [List.length_map, ← Paired.len y6]; exact c, ?_⟩
      have e : qs.map V.ref ++ [V.ref q1] = (qs ++ [q1]).map V.ref := by rw [List.map_append]; rfl
      rw [e]
      exact k σ _ F2 s2 I2
    · rw [cIf_neg c] at k; exact k.elim
end
end
end Fx

/-! Fx10: x[i] op= e, lists of new rows. -/
namespace Fx
open PySem PySem.Spec L2
variable [Tbs]
section
variable {ε ε' ε1 ε2 ρ α β γ π : Type} {D : EnvD ε} {X : Cx} {K : PySem.W.Frag} {R : Str → Hp → Prop} {rr : RetD ρ} {m m' ma mb mi : Md} {st : Stmt} {sts : List Stmt} {te ta tb : TE} {e a b c : Expr} {r : Rp α} {ra : Rp α} {rb : Rp β} {rc : Rp γ} {pos pos' : Pos} {P : PD π} {o : Ro α}
theorem get_list : PGet X (rIxL X.K) := by
  intro pins s σ H x y v u Q I rx ry h
  obtain ⟨p, xs, i, z, rfl, rfl, hq, he, q⟩ := h
  cases rx
  obtain ⟨t, rfl⟩ := ry
  obtain ⟨its, r, pl, hz⟩ := I.list hq
  obtain ⟨j, h1, h2, h3, h4, h5⟩ := atI_get he
  obtain ⟨w, ew, rw'⟩ := r.get h2
  have hl := r.length
  have hn := line63
  have fin : EP X pins σ Q w s := ⟨z, H, I, rw', q⟩
  by_cases h0 : 0 ≤ i
  · have hj : i.toNat = j := by
      rw [seqIndex_of h0 h5] at h1
      exact Option.some.inj h1
    exact PyProof.Rows.getItem_listL pl.isList h0 (by omega) (by rw [hj]; exact ew) fin
  · have hj : (i + (its.toArray.size : Int)).toNat = j := by
      rw [seqIndex_neg (by omega) h4] at h1
      rw [List.size_toArray, ← hl]
      exact Option.some.inj h1
    exact wpAny_getItem_list_neg pl.isList (by omega) (by rw [List.size_toArray] <;> omega) (by omega) (by rw [hj]; simpa using ew) fin
theorem atI_of_ix {xs : List α} {i : Int} {j : Nat} {v : α} (h : ixN xs.length i = some j) (e : xs[j]? = some v) : atI xs i = some v := by
  unfold atI
  rw [h]
  exact e
/-- x[i] op= e -/
def dAugI (h : Int → Int → Int) (gt : ε → Option (List Int)) (p : ε → Option (List Int) → ε) (fi f : ε → Rs Int) : ε → Rs (Fl ε ρ) := fun E => (ofO (gt E)).bind fun xs => (fi E).bind fun i => (ofO (ixN xs.length i)).bind fun k => (ofO xs[k]?).bind fun x => (f E).bind fun y => .ok (.nx (p E (some (xs.set k (h x y)))))
def dAug2 (h : Int → Int → Int) (gt : ε → Option (List (List Int))) (p : ε → Option (List (List Int)) → ε) (fi fj f : ε → Rs Int) : ε → Rs (Fl ε ρ) := fun E => (ofO (gt E)).bind fun xss => (fi E).bind fun i => (ofO (ixN xss.length i)).bind fun k => (ofO xss[k]?).bind fun xs =>
  (fj E).bind fun j => (ofO (ixN xs.length j)).bind fun l => (ofO xs[l]?).bind fun x => (f E).bind fun y => .ok (.nx (p E (some (xss.set k (xs.set l (h x y))))))
section
variable {i : Nat} {x : Str} {px p1 tpos : Pos} {fi fj : ε → Rs Int} {ti tj : TE} {ix jx : Expr} {h : Int → Int → Int} {op : Operator} {f : ε → Rs Int}
theorem fs_augI {gt : ε → Option (List Int)} {p : ε → Option (List Int) → ε} {bo : Bool} (L : OLb bo D i rInt gt p) (hx : FE D X K R ma ix ti rInt fi) (he : FE D X K R m e te rInt f) (hp : PIp X op (ipI h)) (hi : X.N[i]? = some x := by rfl)
    (hv : Vis X.env.scope x := by first | exact Or.inl rfl | exact Or.inr (Or.inl rfl) | exact Or.inr (Or.inr rfl)) (hd : (x == ("__debug__" : Str)) = false := by decide) (hcd : (x == ("__classdict__" : Str)) = false := by decide)
    (ha : ∀ ov iv new, augStore ix ov iv new = (do holding [new, ov, iv] (setItem ov iv new); release [new, ov, iv] []; pure .next) := by intros; rfl) :
    FS D X K R rr (.AugAssign (.Subscript (.Name x px) ix tpos) op e pos) (tAugS (tVar i) ti te (rIxL K) (ipI h) rSetL) (dAugI (ρ := ρ) h gt p fi f) := by
  cases he.hK
  refine ⟨rfl, ps_augS (pe_var hi hv hd hcd) hx.pe get_list he.pe hp set_list ha, fun H O F E σ I Dn k => ?_⟩
  have k := good_bind k
  cases eg : gt E with
  | none => rw [eg] at k; exact k.elim
  | some xs =>
    rw [eg] at k
    have k := good_bind (show Good ((fi E).bind _) _ _ from k)
    obtain ⟨q0, vs0, z0, z1, _⟩ := L.lst I eg
    refine ⟨.ref q0, z0, hx.sem H O F E σ I _ (k.mono (fun i1 _ k w H1 e1 r1 => ?_) fun c k => exS k)⟩
    have I1 := I.same e1
    have k := good_bind k
    cases ei : ixN xs.length i1 with
    | none => rw [ei] at k; exact k.elim
    | some kk =>
      rw [ei] at k
      have k := good_bind (show Good ((ofO xs[kk]?).bind _) _ _ from k)
      cases ex : xs[kk]? with
      | none => rw [ex] at k; exact k.elim
      | some y =>
        rw [ex] at k
        have k := good_bind (show Good ((f E).bind _) _ _ from k)
        obtain ⟨q, vs, y0, y1, y2, y3, y4, _⟩ := L.lst I1 eg
        rw [z0] at y0
        cases y0
        obtain ⟨v, g1, g2⟩ := Paired.get y4 ex
        refine ⟨q0, vs, i1, v, rfl, r1, .inl (.inl y1), atI_of_ix (by rw [← Paired.len y4]; exact ei) g1, he.sem H1 O F E σ I1 _ (k.mono (fun y2 _ k u H2 e2 r2 => ?_) fun c k H2 e2 => exS k H2 (e1.trans e2))⟩
        obtain ⟨q', vs', x0, x1, x2, x3, x4, x5⟩ := L.lst (I1.same e2) eg
        rw [z0] at x0
        cases x0
        obtain ⟨s3, I3⟩ := x5 (xs.set kk (h y y2)) (vs'.set kk (.int (h y y2))) (by rw [List.length_set]; exact x2) (Paired.st (show rInt.rp X.K (hid (O ++ F) _) (h y y2) (.int (h y y2)) from rfl) kk x4)
        exact ⟨y, y2, g2, r2, q0, vs', i1, kk, rfl, r1, x1, by rw [← Paired.len x4]; exact ei, k _ _ F ((Step.same (e1.trans e2)).trans s3) I3⟩
theorem fs_aug2 {gt : ε → Option (List (List Int))} {p : ε → Option (List (List Int)) → ε} (L : Ln D D i (sO (oList2 rInt)) (sO (oList2 rInt)) gt p) (hx1 : FE D X K R ma ix ti rInt fi) (hx2 : FE D X K R mb jx tj rInt fj) (he : FE D X K R m e te rInt f) (hp : PIp X op (ipI h)) (hi : X.N[i]? = some x := by rfl)
    (hv : Vis X.env.scope x := by first | exact Or.inl rfl | exact Or.inr (Or.inl rfl) | exact Or.inr (Or.inr rfl)) (hd : (x == ("__debug__" : Str)) = false := by decide) (hcd : (x == ("__classdict__" : Str)) = false := by decide) (hpl : PlainIx ix := by intro _ _; rfl)
    (ha : ∀ ov iv new, augStore jx ov iv new = (do holding [new, ov, iv] (setItem ov iv new); release [new, ov, iv] []; pure .next) := by intros; rfl) :
    FS D X K R rr (.AugAssign (.Subscript (.Subscript (.Name x px) ix p1) jx tpos) op e pos) (tAugS (tOp (rIxL K) (tVar i) ti) tj te (rIxL K) (ipI h) rSetL) (dAug2 (ρ := ρ) h gt p fi fj f) := by
  cases he.hK
  refine ⟨rfl, ps_augS (pe_ix ix_list (pe_var hi hv hd hcd) hx1.pe hpl) hx2.pe get_list he.pe hp set_list ha, fun H O F E σ I Dn k => ?_⟩
  have k := good_bind k
  cases eg : gt E with
  | none => rw [eg] at k; exact k.elim
  | some xss =>
    rw [eg] at k
    have k := good_bind (show Good ((fi E).bind _) _ _ from k)
    obtain ⟨a0, qs0, z0, _⟩ := l2_at L I eg
    refine ⟨.ref a0, z0, hx1.sem H O F E σ I _ (k.mono (fun i1 _ k w H1 e1 r1 => ?_) fun c k => exS k)⟩
    have I1 := I.same e1
    obtain ⟨a1, qs, y0, y1, y2, y3, y4, y5, y6, _⟩ := l2_at L I1 eg
    rw [z0] at y0
    cases y0
    have k := good_bind k
    cases ei : ixN xss.length i1 with
    | none => rw [ei] at k; exact k.elim
    | some kk =>
      rw [ei] at k
      obtain ⟨q, xs, g1, g2, g3, g4⟩ := atI_ref y6 ei
      have k := good_bind (show Good ((ofO xss[kk]?).bind _) _ _ from k)
      rw [g2] at k
      have k := good_bind (show Good ((fj E).bind _) _ _ from k)
      refine ⟨a0, qs.map V.ref, i1, .ref q, rfl, r1, .inl (.inl y1), g3, hx2.sem H1 O F E σ I1 _ (k.mono (fun j1 _ k u H2 e2 r2 => ?_) fun c k H2 e2 => exS k H2 (e1.trans e2))⟩
      have I2 := I1.same e2
      have k := good_bind k
      cases ej : ixN xs.length j1 with
      | none => rw [ej] at k; exact k.elim
      | some l =>
        rw [ej] at k
        have k := good_bind (show Good ((ofO xs[l]?).bind _) _ _ from k)
        cases ex : xs[l]? with
        | none => rw [ex] at k; exact k.elim
        | some y =>
          rw [ex] at k
          have k := good_bind (show Good ((f E).bind _) _ _ from k)
          obtain ⟨vs, w1, w2, w3⟩ := (g4.imp (hid_sm e2) fun o h nt => e2.wk.get _ _ h nt)
          obtain ⟨v, t1, t2⟩ := Paired.get w3 ex
          refine ⟨q, vs, j1, v, rfl, r2, .inl (.inl w1), atI_of_ix (by rw [← Paired.len w3]; exact ej) t1, he.sem H2 O F E σ I2 _ (k.mono (fun y2 _ k u3 H3 e3 r3 => ?_) fun c k H3 e3 => exS k H3 ((e1.trans e2).trans e3))⟩
          obtain ⟨a2, qs2, x0, x1, x2, x3, x4, x5, x6, x7, _⟩ := l2_at L (I2.same e3) eg
          rw [z0] at x0
          cases x0
          have eq : qs2 = qs := by
            have := (e3.get _ _ (e2.get _ _ y1)).symm.trans x1
            have h := HO.lst.inj (Option.some.inj this)
            exact ((List.map_inj_right (fun _ _ h => V.ref.inj h)).mp h).symm
          subst eq
          have w3' := Paired.imp w3 fun _ _ => rInt.mono (hid_sm (O := O ++ F) e3)
          obtain ⟨s4, I4⟩ := x7 kk q (xs.set l (h y y2)) (vs.set l (.int (h y y2))) g1 (by rw [List.length_set]; exact w2) (Paired.st (show rInt.rp X.K (hid (O ++ F) _) (h y y2) (.int (h y y2)) from rfl) l w3')
          exact ⟨y, y2, t2, r3, q, vs, j1, l, rfl, r2, e3.get _ _ w1, by rw [← Paired.len w3]; exact ej, k _ _ F ((Step.same ((e1.trans e2).trans e3)).trans s4) I4⟩
end
end
end Fx

/-! Fx11: a comprehension whose items are new lists. -/
namespace Fx
open PySem PySem.Spec L2
variable [Tbs]
section
variable {ε ε' ε1 ε2 ρ α β γ π : Type} {D : EnvD ε} {X : Cx} {K : PySem.W.Frag} {R : Str → Hp → Prop} {rr : RetD ρ} {m m' ma mb mi : Md} {te ta tb : TE} {e a b c : Expr} {r : Rp α} {ra : Rp α} {rb : Rp β} {rc : Rp γ} {pos pos' : Pos} {P : PD π} {o : Ro α}
theorem RelF.moreL {H H1 : Hp} {O F : List Addr} {E : ε} {σ : L2.St} (I : RelF D K H O F E σ) (e : Same H H1) : ∀ {ps : List Addr}, (∀ p ∈ ps, H p = none) → (∀ p ∈ ps, ∃ o, H1 p = some o) → RelF D K H1 (ps ++ O) F E σ
  | ps, hn, hd => by
    have hF : ∀ p ∈ ps, p ∉ F := fun p hp z => by
      obtain ⟨o, q⟩ := I.dom p (List.mem_append_right _ z)
      rw [hn p hp] at q
      cases q
    refine ⟨D.frame I.rel (.mk fun q o z nt => ?_) (hid_sm e) fun q _ o z nt => e.wk.get q o z nt, I.nd, fun q hq z => ?_, fun q hq => ?_, e.tab I.tab⟩
    · obtain ⟨c1, c2⟩ := hid_some z
      rw [hid_out]
      · exact e.wk.get _ _ c2 nt
      · intro y
        rcases List.mem_append.mp y with y | y
        · rcases List.mem_append.mp y with y | y
          · rw [hn q y] at c2; cases c2
          · exact c1 (List.mem_append_left _ y)
        · exact c1 (List.mem_append_right _ y)
    · rcases List.mem_append.mp z with z | z
      · exact hF q z hq
      · exact I.dj q hq z
    · rw [List.append_assoc] at hq
      rcases List.mem_append.mp hq with z | z
      · exact hd q z
      · obtain ⟨o, y⟩ := I.dom q z
        exact e.dom y
theorem lc2_sem {D1 : EnvD ε1} {D2 : EnvD ε2} {wi : TI} {g : TG} {tt : TT} {fi : ε → Rs (List α)} {we : ε → ε1} {st : ε1 → α → Option ε2} {ft : ε2 → Rs Bool} {fe : ε2 → Rs (List β)} {vs is : List Nat}
    (hi : SemI true D K R mi wi ra fi) (hw : Wp D D1 vs we) (hg : SemG D1 D2 K ra mi g st is) (his : ∀ i ∈ is, i ∈ vs) (ht : SemT D2 K R tt ft)
    (he : ∀ (H : Hp) (O F : List Addr) (E : ε2) (σ : L2.St), RelF D2 K H O F E σ → ∀ Q : VK, Good (fe E) (fun a => ∀ v H' F', Same H H' → (∀ p ∈ F', H p = none) → F'.Nodup → (∀ p ∈ F', ∃ u, H' p = some u) → (oList rb).rp K H' (hid (O ++ F ++ F') H') a v F' → Q v H') (fun c => ∀ H', Same H H' → R c H') → te σ H Q)
    (H : Hp) (O F : List Addr) (E : ε) (σ : L2.St) (I : RelF D K H O F E σ) (Q : VK)
    (k : Good (lcD fi we st ft fe E) (fun ys => ∀ p qs H', Same H H' → H p = none → (∀ q ∈ qs, H q = none) → (p :: qs).Nodup → H' p = some (.lst (qs.map V.ref)) → ys.length ≤ sizeLine → Paired (rowAt rb K H' (hid (p :: qs ++ O ++ F) H')) ys qs → Q (.ref p) H') (fun c => ∀ H', Same H H' → R c H')) : tLc wi g tt te vs σ H Q := by
  refine hi H O F E σ I _ ((good_bind k).mono (fun xs _ k hz J H1 e1 Y p hp => ?_) fun _ k => k)
  have hp0 : H p = none := e1.free hp
  let Post : List (List β) → Prop := fun ys => ∀ p qs H', Same H H' → H p = none → (∀ q ∈ qs, H q = none) → (p :: qs).Nodup → H' p = some (.lst (qs.map V.ref)) → ys.length ≤ sizeLine → Paired (rowAt rb K H' (hid (p :: qs ++ O ++ F) H')) ys qs → Q (.ref p) H'
  refine ⟨fun i mm H2 => mm = xs.length - i ∧ i ≤ xs.length ∧ Same H1 H2 ∧ ∃ ys qs, H2 p = some (.lst (qs.map V.ref)) ∧ (∀ q ∈ qs, H1 q = none) ∧ (p :: qs).Nodup ∧ Paired (rowAt rb K H2 (hid (p :: qs ++ O ++ F) H2)) ys qs ∧ ys.length ≤ i ∧ Good (lcR (lcS st ft fe (we E)) (xs.drop i)) (fun zs => Post (ys ++ zs)) (fun c => ∀ H', Same H H' → R c H'), ⟨xs.length, by simp, Nat.zero_le _, Fx.same_upd hp, [], [], upd_same, (fun q hq => nomatch hq), List.nodup_cons.mpr ⟨by simp, List.nodup_nil⟩, .nil, Nat.le_refl _, k⟩, ?_⟩
  rintro i mm H2 ⟨rfl, hil, e2, ys, qs, hacc, hqn, hnd, hpr, hyl, kk⟩
  have eB : Wk (hidM mi O F H1) H2 := Wk.trans hidM_low e2
  by_cases hlt : i < xs.length
  · have hx : xs[i]? = some xs[i] := List.getElem?_eq_getElem hlt
    rw [List.drop_eq_getElem_cons hlt] at kk
    obtain ⟨hgo, hy⟩ := (Y H2 eB e2.wk).1 i _ hx
    refine .inr ⟨hgo, fun H3 => i + 1 ≤ xs.length ∧ Same H1 H3 ∧ ∃ ys qs, H3 p = some (.lst (qs.map V.ref)) ∧ (∀ q ∈ qs, H1 q = none) ∧ (p :: qs).Nodup ∧ Paired (rowAt rb K H3 (hid (p :: qs ++ O ++ F) H3)) ys qs ∧ ys.length ≤ i + 1 ∧ Good (lcR (lcS st ft fe (we E)) (xs.drop (i + 1))) (fun zs => Post (ys ++ zs)) (fun c => ∀ H', Same H H' → R c H'), fun H3 h3 => ⟨xs.length - (i + 1), by omega, rfl, h3⟩, fun v H3 y => ?_⟩
    obtain ⟨rfl, rv⟩ := hy v H3 y
    have hO : ∀ q ∈ p :: qs, H1 q = none := fun q hq => by
      rcases List.mem_cons.mp hq with z | z
      · rw [z]; exact hp
      · exact hqn q z
    have I2 : RelF D K H3 (p :: qs ++ O) F E σ := (I.same e1).moreL e2 hO fun q hq => by
      rcases List.mem_cons.mp hq with z | z
      · rw [z]; exact ⟨_, hacc⟩
      · have : ∀ {ys : List (List β)} {qs : List Addr}, Paired (rowAt rb K H3 (hid (p :: qs ++ O ++ F) H3)) ys qs → True := fun _ => trivial
        obtain ⟨j, hj⟩ := List.getElem?_of_mem z
        obtain ⟨a, _, vs, w1, _⟩ := Paired.getR hpr hj
        exact ⟨_, w1⟩
    have rv' : ra.rp K (hidM mi (p :: qs ++ O) F H3) xs[i] v := ra.mono (.mk fun q u hq nt => by
      obtain ⟨c1, c2⟩ := hid_some hq
      unfold hidM
      rw [hid_out]
      · exact e2.wk.get _ _ c2 nt
      · intro z
        have hnq : q ∉ p :: qs := fun y => by rw [hO q y] at c2; cases c2
        apply c1
        obtain ⟨a, b⟩ := mi
        cases a <;> cases b <;> simp_all) rv
    have kk := good_bind kk
    unfold lcS at kk
    have kk := good_bind kk
    cases est : st (we E) xs[i] with
    | none => rw [est] at kk; exact kk.elim
    | some E2 =>
      rw [est] at kk
      have kk : Good ((ft E2).bind fun b => if b = true then (fe E2).bind fun y => .ok (some y) else .ok none) _ _ := kk
      refine hg H3 (p :: qs ++ O) F (we E) E2 _ xs[i] v (hw.run I2) rv' est _ fun σ2 I3 ag hl2 => ⟨?_, ?_⟩
      · refine wipe_agree (by rw [hl2, wipe_length]) fun j hj => ?_
        rw [ag j fun z => hj (his j z), wipe_out hj]
      · refine ht H3 (p :: qs ++ O) F E2 σ2 I3 _ ((good_bind kk).mono (fun b _ kk H4 e4 => ?_) fun c kk H4 e4 => kk H4 ((e1.trans e2).trans e4))
        cases b with
        | true =>
          have kk : Good ((fe E2).bind fun y => .ok (some y)) _ _ := kk
          show te σ2 H4 _
          refine he H4 (p :: qs ++ O) F E2 σ2 (I3.same e4) _ ((good_bind kk).mono (fun y _ kk w H5 F5 e5 n5 nd5 d5 rw5 => ?_) fun c kk H5 e5 => kk H5 ((e1.trans e2).trans (e4.trans e5)))
          obtain ⟨q1, ws, rfl, rfl, b1, b2, b3⟩ := rw5
          have e25 := e4.trans e5
          have hacc5 : H5 p = some (.lst (qs.map V.ref)) := e25.get p _ hacc
          have kk := good_bind (show Good ((lcR (lcS st ft fe (we E)) (xs.drop (i + 1))).bind _) _ _ from kk)
          have hq1 : H3 q1 = none := e4.free (n5 q1 (by simp))
          have hq1' : H1 q1 = none := e2.free hq1
          have hq1p : q1 ≠ p := fun z => by rw [z, hacc] at hq1; cases hq1
          have hq1q : q1 ∉ qs := fun z => by
            obtain ⟨j, hj⟩ := List.getElem?_of_mem z
            obtain ⟨a, _, vs, w1, _⟩ := Paired.getR hpr hj
            rw [w1] at hq1; cases hq1
          have hsm : ∀ {Z : List Addr}, (∀ q ∈ p :: (qs ++ [q1]) ++ O ++ F, q ∈ Z) → p ∈ Z → Wk (hid Z H5) (hid (p :: (qs ++ [q1]) ++ O ++ F) (upd H5 p (.lst ((qs ++ [q1]).map V.ref)))) := fun {Z} hZ hpZ => .mk fun q u hq _ => by
            obtain ⟨c1, c2⟩ := hid_some hq
            rw [hid_out fun z => c1 (hZ q z), upd_ne (show q ≠ p from fun z => c1 (z ▸ hpZ))]
            exact c2
          refine ⟨qs.map V.ref, hacc5, ?_, hlt, ?_, ys ++ [y], qs ++ [q1], ?_, ?_, ?_, ?_, by rw [List.length_append]; simp; omega, ?_⟩
          · rw [List.length_map, ← Paired.len hpr]
            omega
          · exact (e2.trans e25).upd_new hp hacc5
          · rw [List.map_append]
            exact upd_same
          · intro q hq
            rcases List.mem_append.mp hq with z | z
            · exact hqn q z
            · rw [List.mem_singleton.mp z]; exact hq1'
          · refine List.nodup_cons.mpr ⟨fun z => ?_, List.nodup_append.mpr ⟨(List.nodup_cons.mp hnd).2, List.nodup_cons.mpr ⟨by simp, List.nodup_nil⟩, fun b hb d hd => by
              rw [List.mem_singleton.mp hd]
              exact fun z => hq1q (z ▸ hb)⟩⟩
            rcases List.mem_append.mp z with z | z
            · exact (List.nodup_cons.mp hnd).1 z
            · exact hq1p (List.mem_singleton.mp z).symm
          · have em : List.map V.ref qs ++ [V.ref q1] = (qs ++ [q1]).map V.ref := by rw [List.map_append]; rfl
            rw [em]
            refine Paired.app (paired_same hpr (.mk fun q u hq nt => ?_) fun q hq u hu nt => ?_) (.cons ⟨ws, by rw [upd_ne hq1p]; exact b1, b2, Paired.imp b3 fun _ _ => rb.mono (hsm (fun q hq => ?_) (by simp))⟩ .nil)
            · obtain ⟨c1, c2⟩ := hid_some hq
              have hqq : q ≠ q1 := fun z => by rw [z, hq1] at c2; cases c2
              rw [hid_out, upd_ne (show q ≠ p from fun z => c1 (by simp [z]))]
              · exact e25.wk.get _ _ c2 nt
              · intro z
                apply c1
                simp at z ⊢
                rcases z with z | z | z | z | z
                · exact .inl z
                · exact .inr (.inl z)
                · exact absurd z hqq
                · exact .inr (.inr (.inl z))
                · exact .inr (.inr (.inr z))
            · rw [upd_ne (show q ≠ p from fun z => (List.nodup_cons.mp hnd).1 (z ▸ hq))]
              exact e25.wk.get _ _ hu nt
            · simp at hq ⊢
              rcases hq with z | z | z | z | z
              · exact .inl z
              · exact .inr (.inl z)
              · exact .inr (.inr (.inr (.inr z)))
              · exact .inr (.inr (.inl z))
              · exact .inr (.inr (.inr (.inl z)))
          · refine kk.mono (fun zs _ q => ?_) fun _ q => q
            have q : Post (ys ++ (y :: zs)) := q
            rw [List.append_assoc]
            exact q
        | false =>
          have kk := good_bind (show Good ((lcR (lcS st ft fe (we E)) (xs.drop (i + 1))).bind _) _ _ from kk)
          show i + 1 ≤ xs.length ∧ _
          exact ⟨hlt, e2.trans e4, ys, qs, e4.get p _ hacc, hqn, hnd, paired_same hpr (hid_sm e4) (fun q _ u hu nt => e4.wk.get _ _ hu nt), by omega, kk.mono (fun zs _ q => q) fun _ q => q⟩
  · have ei : i = xs.length := by omega
    subst ei
    refine .inl ⟨(Y H2 eB e2.wk).2 _ (Nat.le_refl _), ?_⟩
    rw [List.drop_length] at kk
    have kk : Post (ys ++ []) := kk
    rw [List.append_nil] at kk
    exact kk p qs H2 (e1.trans e2) hp0 (fun q hq => e1.free (hqn q hq)) hnd hacc (Nat.le_trans hyl hz) hpr
section
variable {D1 : EnvD ε1} {D2 : EnvD ε2} {wi : TI} {g : TG} {tt : TT} {fi : ε → Rs (List α)} {we : ε → ε1} {st : ε1 → α → Option ε2} {ft : ε2 → Rs Bool} {fe : ε2 → Rs (List β)} {is : List Nat} {elt tg iter : Expr} {ifs : List Expr} {scope : Scope} {own : List (Str × Nat)} {spos : Pos}
/-- such a comprehension's parts -/
structure Lc2 (D : EnvD ε) (X : Cx) (K : PySem.W.Frag) (R : Str → Hp → Prop) (elt tg iter : Expr) (ifs : List Expr) (scope : Scope) (own : List (Str × Nat)) (wi : TI) (g : TG) (tt : TT) (te : TE) (rb : Rp β) (f : ε → Rs (List (List β))) : Prop where
  hK : X.K = K
  hi : PI X tg iter wi
  ok : BlkOk X.N X.env.scope scope own
  hg : ∀ (s : Shared) (H : Hp) (C : Addr) (cl : List (Str × Addr)) (fp : List Addr), PG (X.blk s H scope (compEnvC scope cl C X.env) fp) tg g
  ht : ∀ (s : Shared) (H : Hp) (C : Addr) (cl : List (Str × Addr)) (fp : List Addr), PTs (X.blk s H scope (compEnvC scope cl C X.env) fp) ifs tt
  he : ∀ (s : Shared) (H : Hp) (C : Addr) (cl : List (Str × Addr)) (fp : List Addr), PE (X.blk s H scope (compEnvC scope cl C X.env) fp) elt te
  sem : ∀ (H : Hp) (O F : List Addr) (E : ε) (σ : L2.St), RelF D K H O F E σ → ∀ Q : VK,
    Good (f E) (fun a => ∀ v H' F', Same H H' → (∀ p ∈ F', H p = none) → F'.Nodup → (∀ p ∈ F', ∃ u, H' p = some u) → (oList2 rb).rp K H' (hid (O ++ F ++ F') H') a v F' → Q v H') (fun c => ∀ H', Same H H' → R c H') → tLc wi g tt te (own.map (·.2)) σ H Q
theorem lc2_mk (hi : FI true D X K R mi tg iter wi ra fi) (ok : BlkOk X.N X.env.scope scope own) (hw : Wp D D1 (own.map (·.2)) we) (his : ∀ i ∈ is, i ∈ own.map (·.2))
    (hg : ∀ (s : Shared) (H : Hp) (C : Addr) (cl : List (Str × Addr)) (fp : List Addr), FG D1 D2 (X.blk s H scope (compEnvC scope cl C X.env) fp) K ra mi tg g st is)
    (ht : ∀ (s : Shared) (H : Hp) (C : Addr) (cl : List (Str × Addr)) (fp : List Addr), FTs D2 (X.blk s H scope (compEnvC scope cl C X.env) fp) K R ifs tt ft)
    (he : ∀ (s : Shared) (H : Hp) (C : Addr) (cl : List (Str × Addr)) (fp : List Addr), FN D2 (X.blk s H scope (compEnvC scope cl C X.env) fp) K R elt te (oList rb) fe) : Lc2 D X K R elt tg iter ifs scope own wi g tt te rb (lcD fi we st ft fe) := by
  cases hi.hK
  refine ⟨rfl, hi.pi, ok, fun s H C cl fp => (hg s H C cl fp).pg, fun s H C cl fp => (ht s H C cl fp).pt, fun s H C cl fp => (he s H C cl fp).pe, fun H O F E σ I Q k =>
    lc2_sem hi.sem hw (hg X.s_0 X.H_0 0 [] []).sem his (ht X.s_0 X.H_0 0 [] []).sem (he X.s_0 X.H_0 0 [] []).sem H O F E σ I Q (k.mono (fun ys _ k p qs H' e1 n1 n2 nd h1 hz h2 => ?_) fun _ k => k)⟩
  refine k _ H' (p :: qs) e1 (fun q hq => ?_) nd (fun q hq => ?_) ⟨p, qs, rfl, rfl, h1, hz, paired_same h2 (hid_sub fun q hq => ?_) fun _ _ _ z _ => z⟩
  · rcases List.mem_cons.mp hq with z | z
    · rw [z]; exact n1
    · exact n2 q z
  · rcases List.mem_cons.mp hq with z | z
    · rw [z]; exact ⟨_, h1⟩
    · obtain ⟨j, hj⟩ := List.getElem?_of_mem z
      obtain ⟨a, _, vs, w1, _⟩ := Paired.getR h2 hj
      exact ⟨_, w1⟩
  · simp at hq ⊢
    rcases hq with z | z | z | z
    · exact .inr (.inr (.inl z))
    · exact .inr (.inr (.inr z))
    · exact .inl z
    · exact .inr (.inl z)
theorem fn_lc2 {f : ε → Rs (List (List β))} (hc : X.calm = true) (hN : X.N.Nodup) (L : Lc2 D X K R elt tg iter ifs scope own wi g tt te rb f) (hs : ∀ x, foldedSetIterable iter X.env x = pure x := by intro _; rfl) :
    FN D X K R (.ListComp elt [⟨tg, iter, ifs, 0⟩] scope pos) (tLc wi g tt te (own.map (·.2))) (oList2 rb) f := ⟨L.hK, pe_lc hc hN L.hi L.ok L.hg L.ht L.he hs, L.sem⟩
theorem fs_setLc2 {i : Nat} {y : Str} {py : Pos} {gt : ε → Option (List (List β))} {p : ε → Option (List (List β)) → ε} {f : ε → Rs (List (List β))} (L : Ln D D i (sO (oList2 rb)) (sO (oList2 rb)) gt p) (hc : X.calm = true) (hN : X.N.Nodup) (Lcc : Lc2 D X K R elt tg iter ifs scope own wi g tt te rb f)
    (hsw : swapsWith (.ListComp elt [⟨tg, iter, ifs, 0⟩] scope pos) (some (.Name y py)) spos.line X.env = pure true) (hy : X.N[i]? = some y := by rfl) (hyl : X.env.scope.names.lookup y = some .local := by rfl) (hs : ∀ x, foldedSetIterable iter X.env x = pure x := by intro _; rfl) :
    FS D X K R rr (.Assign [.Name y py] (.ListComp elt [⟨tg, iter, ifs, 0⟩] scope pos) spos) (tAsg (tLc wi g tt te (own.map (·.2))) (gName i)) (dSet (ρ := ρ) p f) :=
  ⟨Lcc.hK, ps_setLc hc hN hy hyl hsw Lcc.hi Lcc.ok Lcc.hg Lcc.ht Lcc.he hs, sem_setG L Lcc.sem⟩
end
end
end Fx

/-! Fx12: x.index(e) of a list of whole numbers. -/
namespace Fx
open PySem PySem.Spec L2
variable [Tbs]
section
variable {ε ε' ρ α β γ π : Type} {D : EnvD ε} {X : Cx} {K : PySem.W.Frag} {R : Str → Hp → Prop} {rr : RetD ρ} {m m' ma mb : Md} {te ta tb : TE} {e a b c : Expr} {r : Rp α} {pos pos' : Pos}
def idxF : List Int → Int → Option Int := fun xs x => if x ∈ xs then some ((xs.idxOf x : Nat) : Int) else none
theorem fe_index {f : ε → Rs (List Int)} {g : ε → Rs Int} {apos cpos : Pos} (ha : FE D X K R ma a ta (rList rInt) f) (hb : FE D X K R mb b tb rInt g)
    (hbase : attributeBase a "index" X.env (eval a X.env) = eval a X.env := by rfl)
    (hfew : ((backTo cpos (starEach (b :: []) X.env)).all (fun x => !x.1) && (backToKw cpos (keywordEach [] X.env)).all (fun x => x.1.isSome)
      && decide ((b :: []).length + ([] : List Keyword).length + (if ([] : List Keyword).isEmpty then 0 else 1) < 30)) = true := by rfl)
    (hline : (apos.endLine == cpos.line) = true := by rfl) (hs : starEach (b :: []) X.env = (false, eval b X.env) :: starEach [] X.env := by rfl) (hplain : (backTo cpos (starEach [] X.env)).any (·.1) = false := by rfl) :
    FE D X K R m (.Call (.Attribute a "index" apos) [b] [] cpos) (tBM K "list" (rIndex K) ta (tCons tb tNil)) rInt (d2 idxF f g) := by
  cases ha.hK
  refine ⟨rfl, pe_bm PySem.F.plainAttrs_list PySem.F.slot_list_index PySem.F.type_list_index mt_index ha.pe (pa_cons hb.pe pa_nil hs) hbase hfew hline hs hplain, fun H O F E σ I Q k => ?_⟩
  refine ha.sem H O F E σ I _ ((good_bind k).mono (fun xs _ k v H1 e1 r1 => ?_) fun c k => k)
  obtain ⟨p, vs, rfl, hp, hl, hv⟩ := r1
  have hp1 := hid_le.get _ _ hp
  refine ⟨.inl ⟨rfl, _, .inl (.inl hp1)⟩, hb.sem H1 O F E σ (I.same e1) _ ((good_bind k).mono (fun y _ k w H2 e2 r2 => ?_) fun c k H2 e2 => k H2 (e1.trans e2))⟩
  have ev := paired_int hv
  have ew : w = .int y := r2
  subst ew
  show rIndex X.K (.ref p) [.int y] H2 Q
  by_cases hm : y ∈ xs
  · have k : Good (ofO (idxF xs y)) _ _ := k
    unfold idxF at k
    rw [if_pos hm] at k
    have hlt : xs.idxOf y < xs.length := List.idxOf_lt_length_of_mem hm
    refine ⟨p, vs, .int y, xs.idxOf y, .int y, rfl, rfl, .inl (.inl (e2.get _ _ hp1)), rfl, by rw [ev]; exact flat_ints xs, ?_, beq_self_eq_true y, fun j z hj hz => ?_, k _ H2 (e1.trans e2) rfl⟩
    · rw [ev, List.getElem?_map, List.getElem?_eq_getElem hlt, List.getElem_idxOf]
      rfl
    · rw [ev, List.getElem?_map, List.getElem?_eq_getElem (by omega)] at hz
      cases hz
      have := List.not_of_lt_findIdx (p := (· == y)) (xs := xs) (i := j) hj
      show (xs[j] == y) = false
      simpa using this
  · have k : Good (ofO (idxF xs y)) _ _ := k
    unfold idxF at k
    rw [if_neg hm] at k
    exact k.elim
end
end Fx

/-! Fx13: tuples of like items: indexed at open places, walked. -/
namespace Fx
open PySem PySem.Spec L2
variable [Tbs]
section
variable {ε ε' ρ α β γ π : Type} {D : EnvD ε} {X : Cx} {K : PySem.W.Frag} {R : Str → Hp → Prop} {rr : RetD ρ} {m m' ma mb : Md} {te ta tb : TE} {tg e a b c : Expr} {r : Rp α} {pos pos' : Pos} {P : PD π} {cm : Bool}
def rTl {α : Type} (r : Rp α) : Rp (List α) :=
  ⟨fun K H xs v => ∃ a vs, v = .ref a ∧ H a = some (.tup vs) ∧ xs.length ≤ sizeLine ∧ Paired (r.rp K H) xs vs, fun e ⟨a, vs, h1, h2, hl, h3⟩ => ⟨a, vs, h1, e.get _ _ h2, hl, Paired.imp h3 fun _ _ q => r.mono e q⟩⟩
/-- one reading for another -/
theorem fe_cast {r' : Rp β} {g : α → β} {f : ε → Rs α} (h : ∀ (K : PySem.W.Frag) (H : Hp) (a : α) (v : V), r.rp K H a v → r'.rp K H (g a) v) (he : FE D X K R m e te r f) : FE D X K R m e te r' (d1 (fun a => some (g a)) f) := by
  cases he.hK
  exact ⟨rfl, he.pe, fun H O F E σ I Q k => he.sem H O F E σ I _ ((good_bind k).mono (fun a _ k v H1 e1 r1 => k v H1 e1 (h _ _ _ _ r1)) fun _ k => k)⟩
/-- such rows of like items -/
structure Tl (P : PD π) (r : Rp α) (g : π → List α) : Prop where
  rel : ∀ {K : PySem.W.Frag} {H : Hp} {x : π} {vs : List V}, P.rel K H H x vs → Paired (r.rp K H) (g x) vs
  len : ∀ x, (g x).length ≤ 1000
theorem tl_nil : Tl pNil r (fun _ => []) := ⟨fun h => by rw [show _ = [] from h]; exact .nil, fun _ => Nat.zero_le _⟩
theorem tl_one : Tl (pC true r pNil) r (fun x => [x.1]) := ⟨fun ⟨v, us, h1, h2, h3⟩ => by rw [h1, show us = [] from h3]; exact .cons h2 .nil, fun _ => by show 1 ≤ 1000; decide⟩
theorem tl_two : Tl (pC true r (pC true r pNil)) r (fun x => [x.1, x.2.1]) := ⟨fun ⟨v, us, h1, h2, v2, us2, h3, h4, h5⟩ => by rw [h1, h3, show us2 = [] from h5]; exact .cons h2 (.cons h4 .nil), fun _ => by show 2 ≤ 1000; decide⟩
theorem tl_three : Tl (pC true r (pC true r (pC true r pNil))) r (fun x => [x.1, x.2.1, x.2.2.1]) := ⟨fun ⟨v, us, h1, h2, v2, us2, h3, h4, v3, us3, h5, h6, h7⟩ => by rw [h1, h3, h5, show us3 = [] from h7]; exact .cons h2 (.cons h4 (.cons h6 .nil)), fun _ => by show 3 ≤ 1000; decide⟩
theorem tl_rp {g : π → List α} (t : Tl P r g) : ∀ (K : PySem.W.Frag) (H : Hp) (a : π) (v : V), (rTup P).rp K H a v → (rTl r).rp K H (g a) v := fun K H a v ⟨p, vs, h1, h2, h3⟩ => ⟨p, vs, h1, h2, Nat.le_trans (t.len a) (by decide), t.rel h3⟩
theorem fi_tl {g : ε → Rs (List α)} (h : FE D X K R m e te (rTl r) g) : FI cm D X K R m tg e (iTup K te) r g := by
  cases h.hK
  exact ⟨rfl, pi_tup h.pe, fun H O F E σ I Q k =>
  h.sem H O F E σ I _ (k.mono (fun xs _ k v H1 e1 r1 => by
    obtain ⟨p, vs, h1, h2, hz, h3⟩ := r1
    have h2' := hid_le.get _ _ h2
    refine ⟨p, h1, ⟨vs, .inl (.inl h2')⟩, k hz _ H1 e1 fun H2 e2 _ => ⟨fun i a ha => ?_, fun i hi => ⟨vs, .inl (.inl (e2.get _ _ h2)), by rw [← Paired.len h3]; exact hi⟩⟩⟩
    obtain ⟨w, g1, g2⟩ := Paired.get h3 ha
    refine ⟨⟨vs, w, .inl (.inl (e2.get _ _ h2)), g1⟩, fun x H' y => ⟨y.1, ?_⟩⟩
    have := (y.2 vs (.inl (.inl (e2.get _ _ h2)))).symm.trans g1
    cases this
    exact g2) fun _ k => k)⟩
theorem b_ixT {K : PySem.W.Frag} : Bin K m mb m (rIxT K) (rTl r) rInt r atI := fun H O F x y z v w _ h1 h2 e Q k => by
  obtain ⟨p, vs, rfl, hp, hl1, hv⟩ := h1
  cases h2
  obtain ⟨j, e1, e2, e3, _, _⟩ := atI_get e
  obtain ⟨u, g1, g2⟩ := Paired.get hv e2
  have el : x.length = vs.length := Paired.len hv
  refine ⟨p, vs, y, u, rfl, rfl, .inl (.inl (hid_le.get _ _ hp)), ?_, k u H (Same.refl H) g2⟩
  unfold atI at e ⊢
  cases ei : ixN x.length y with
  | none => rw [ei] at e; cases e
  | some j' =>
    rw [ei] at e
    rw [← el, ei]
    have e' : x[j']? = some z := e
    obtain ⟨u', g1', _⟩ := Paired.get hv e'
    have : j' = j := by
      have q := (ixN_seq ei).1
      rw [e1] at q
      exact (Option.some.inj q).symm
    subst this
    exact g1
end
end Fx

/-! Fx14: sorted(..), of whole numbers, texts, lists of whole numbers, tuples of these. -/
namespace Fx
open PySem PySem.Spec L2
variable [Tbs]
section
variable {ε ε' ρ α β γ π : Type} {D : EnvD ε} {X : Cx} {K : PySem.W.Frag} {R : Str → Hp → Prop} {rr : RetD ρ} {m m' ma mb : Md} {te ta tb : TE} {tg e a b c : Expr} {r : Rp α} {pos pos' : Pos} {P : PD π} {cm : Bool}
/-- what can be put in order -/
structure Sb (r : Rp α) where
  n : Nat
  toD : α → PyData
  lt : α → α → Bool
  dp : ∀ {K : PySem.W.Frag} {H : Hp} {x : α} {v : V}, r.rp K H x v → Dp K H v (toD x)
  alk : ∀ x y, PySem.W.alike (toD x) (toD y) = true
  dep : ∀ x, (toD x).depth ≤ n
  eqv : ∀ x y, PyData.eqv (toD x) (toD y) = (!lt x y && !lt y x)
  ltD : ∀ x y, PySem.W.dataLt (toD x) (toD y) = lt x y
  top : (∀ x, ∃ y l, toD x = .tuple (y :: l)) ∨ (∀ x, toD x ≠ .none ∧ ∀ l, toD x ≠ .tuple l)
def sInt : Sb rInt := ⟨0, .int, fun x y => decide (x < y), fun h => by cases h; exact .int _, fun _ _ => by simp [PySem.W.alike], fun _ => by simp [PyData.depth], fun x y => by
  unfold PyData.eqv
  by_cases h : x = y
  · subst h; simp
  · by_cases h1 : x < y <;> by_cases h2 : y < x <;> simp [h, h1, h2] <;> omega, fun x y => PySem.W.dataLt_int x y, .inr fun x => ⟨fun h => (by cases h), fun l h => (by cases h)⟩⟩
/-- rows of such -/
structure Sbs (P : PD π) where
  n : Nat
  toD : π → List PyData
  lt : π → π → Bool
  dp : ∀ {K : PySem.W.Frag} {H : Hp} {x : π} {vs : List V}, P.rel K H H x vs → DpAll K H vs (toD x)
  alk : ∀ x y, PySem.W.alikeAll (toD x) (toD y) = true
  dep : ∀ x, PyData.depthAll (toD x) ≤ n
  eqv : ∀ x y, PyData.eqvAll (toD x) (toD y) = (!lt x y && !lt y x)
  ltD : ∀ x y, PySem.W.rowLt (toD x) (toD y) = lt x y
def sNil : Sbs pNil := ⟨0, fun _ => [], fun _ _ => false, fun h => by
  rw [show _ = [] from h]
  exact .nil, fun _ _ => by simp [PySem.W.alikeAll], fun _ => by simp [PyData.depthAll], fun _ _ => by simp [PyData.eqvAll], fun _ _ => by first | exact PyProof.Rows.lex_irrefl _ | exact lex_irrefl _ | rfl⟩
def sC (q : Sb r) (qs : Sbs P) : Sbs (pC true r P) := ⟨max q.n qs.n, fun x => q.toD x.1 :: qs.toD x.2, fun x y => if (!q.lt x.1 y.1 && !q.lt y.1 x.1) = true then qs.lt x.2 y.2 else q.lt x.1 y.1, fun ⟨v, us, h1, h2, h3⟩ => by
  rw [h1]
  exact .cons (q.dp h2) (qs.dp h3), fun x y => by
  rw [PySem.W.alikeAll, q.alk, qs.alk]
  rfl, fun x => by rw [PyData.depthAll]; exact Nat.max_le.mpr ⟨Nat.le_trans (q.dep _) (Nat.le_max_left _ _), Nat.le_trans (qs.dep _) (Nat.le_max_right _ _)⟩, fun x y => by
  rw [PyData.eqvAll, q.eqv, qs.eqv]
  have a1 : PySem.W.dataLt (q.toD x.1) (q.toD y.1) = q.lt x.1 y.1 := q.ltD _ _
  cases e1 : q.lt x.1 y.1 <;> cases e2 : q.lt y.1 x.1 <;> simp [e1, e2], fun x y => by
  unfold PySem.W.rowLt
  rw [PySem.W.dataLt_cons (q.alk _ _), q.eqv, q.ltD]
  have := qs.ltD x.2 y.2
  unfold PySem.W.rowLt at this
  rw [this]⟩
theorem Sbs.cons_head (q : Sb r) (qs : Sbs P) (x : α × π) : ∃ y l, (sC q qs).toD x = y :: l := ⟨_, _, rfl⟩
def sTup (q : Sb r) (qs : Sbs P) : Sb (rTup (pC true r P)) := ⟨(sC q qs).n + 1, fun x => .tuple ((sC q qs).toD x), (sC q qs).lt, fun ⟨p, vs, h1, h2, h3⟩ => by
  rw [h1]
  exact .tup (.inl (.inl h2)) ((sC q qs).dp h3), fun x y => by rw [PySem.W.alike]; exact (sC q qs).alk x y, fun x => by
  rw [PyData.depth]
  exact Nat.succ_le_succ ((sC q qs).dep x), fun x y => by rw [PyData.eqv]; exact (sC q qs).eqv x y, fun x y => by
  rw [PySem.W.dataLt_tuple]
  exact (sC q qs).ltD x y, .inl fun x => ⟨_, _, rfl⟩⟩
theorem dpAll_ints {K : PySem.W.Frag} {H : Hp} : ∀ {xs : List Int} {vs : List V}, Paired (rInt.rp K H) xs vs → DpAll K H vs (xs.map .int)
  | _, _, .nil => .nil
  | _, _, .cons h t => by
    cases h
    exact .cons (.int _) (dpAll_ints t)
theorem eqvAll_ints : ∀ xs ys : List Int, PyData.eqvAll (xs.map .int) (ys.map .int) = (!decide (xs < ys) && !decide (ys < xs))
  | [], [] => by simp [PyData.eqvAll]
  | [], y :: ys => by simp [PyData.eqvAll]
  | x :: xs, [] => by simp [PyData.eqvAll]
  | x :: xs, y :: ys => by
    rw [List.map_cons, List.map_cons, PyData.eqvAll, eqvAll_ints xs ys]
    unfold PyData.eqv
    by_cases h : x = y
    · subst h; simp [List.cons_lt_cons_iff]
    · by_cases h1 : x < y
      · simp [List.cons_lt_cons_iff, h, h1]
      · have : y < x := by omega
        simp [List.cons_lt_cons_iff, h, h1, this]
def sInts : Sb (rList rInt) := ⟨1, fun xs => .list (xs.map .int), fun x y => decide (x < y), fun ⟨p, vs, h1, h2, hl, h3⟩ => by
  rw [h1]
  exact .lst (.inl (.inl h2)) (dpAll_ints h3), fun x y => by rw [PySem.W.alike]; exact PySem.W.alike_ints x y, fun x => by rw [PyData.depth, PySem.W.depth_ints]; exact Nat.le_refl _, fun x y => by rw [PyData.eqv]; exact eqvAll_ints x y, fun x y => by
  rw [PySem.W.dataLt_list]
  exact PySem.W.dataLt_ints x y, .inr fun x => ⟨fun h => (by cases h), fun l h => (by cases h)⟩⟩
/-! ### the rule -/
def rSortedD (K : PySem.W.Frag) {β : Type} (enc : β → PyData) : List V → Hp → VK → Prop := fun vs H Q => ∃ (a : Addr) (xs : List V) (bs : List β), vs = [V.ref a] ∧ SqL K H a xs ∧ Paired (fun b x => Dp K H x (enc b)) bs xs ∧ bs.length ≤ sizeLine ∧ (∀ x y, PySem.W.alike (enc x) (enc y) = true) ∧ PySem.W.Sortable (bs.map enc) ∧ (∀ b, (enc b).depth ≤ 8) ∧
  ∀ (ys : List V) (p : Addr), Paired (fun b y => (b, y) ∈ bs.zip xs) (bs.mergeSort (PySem.W.dataLe false enc)) ys → H p = none → Q (.ref p) (upd H p (.lst ys))
theorem eachIs_of {β : Type} {H : Hp} {K : PySem.W.Frag} {enc : β → PyData} {F : β → V → Prop} : ∀ {bs : List β} {xs : List V} {us : List Value}, Paired F bs xs → Vals xs us → PySem.W.EachIs (fun (u : Value) b => ∃ x, RelV x u ∧ F b x ∧ (b, x) ∈ bs.zip xs) us bs
  | _, _, _, .nil, .nil => .nil
  | b :: bs, x :: xs, u :: us, .cons h t, .cons h2 t2 => .cons ⟨x, h2, h, by simp⟩ ((eachIs_of (H := H) (K := K) (enc := enc) t t2).mono fun _ _ ⟨y, a1, a2, a3⟩ => ⟨y, a1, a2, by rw [List.zip_cons_cons]; exact List.mem_cons_of_mem _ a3⟩)
theorem eachIs_back {β : Type} {F : β → V → Prop} : ∀ {us : List Value} {bs : List β}, PySem.W.EachIs (fun (u : Value) b => ∃ x, RelV x u ∧ F b x) us bs → ∃ ys, Vals ys us ∧ Paired F bs ys
  | _, _, .nil => ⟨[], .nil, .nil⟩
  | _, _, .cons ⟨x, h1, h2⟩ t => by
    obtain ⟨ys, g1, g2⟩ := eachIs_back t
    exact ⟨x :: ys, .cons h1 g1, .cons h2 g2⟩
theorem cr_sortedD {β : Type} {enc : β → PyData} (hu : X.A.units + 65 < cLine) : CallR X (.builtin "sorted") (rSortedD X.K enc) := by
  intro pins s σ H vs us Q I r h
  obtain ⟨a, xs, bs, rfl, hs, hp, hbl, hal, hsr, hdp, q⟩ := h
  obtain ⟨its, rv, hl, hz⟩ := I.list hs
  rw [Vals.ref1 r]
  have E1 := eachIs_of (H := H) (K := X.K) (enc := enc) hp rv
  refine PySem.W.sorted_data (R := fun (u : Value) b => ∃ x, RelV x u ∧ (b, x) ∈ bs.zip xs) (enc := enc) hl.isList (E1.mono fun u b ⟨x, a1, a2, a3⟩ => ⟨x, a1, a3⟩) (E1.mono fun u b ⟨x, a1, a2, a3⟩ => Dp.reads I _ _ _ a2 a1) (PySem.W.AllAlike.of hal) hsr hbl (fun b _ => by have := hdp b; omega) fun out ho eo => ?_
  obtain ⟨ys, g1, g2⟩ := eachIs_back (F := fun b x => (b, x) ∈ bs.zip xs) eo
  obtain ⟨ep, he'⟩ := PyProof.Rows.sortedAll_at s.heap its out.toArray
  have hlen : ys.length ≤ sizeLine := by
    rw [g1.length, ho]
    exact hbl
  exact ⟨.ref _, upd H (s.heap.objs.size + 1) (.lst ys), I.laid (t' := s.toks) (fun _ _ => PyProof.Rows.sortedAll_old) (Nat.le_succ _) ⟨hlen, out, ep, g1, he'⟩, rfl, q _ _ g2 (I.hok.fresh (Nat.le_succ _))⟩
def sortF (lt : α → α → Bool) (xs : List α) : List α := xs.mergeSort fun x y => !lt y x
theorem srt_eq (q : Sb r) (xs : List α) : xs.mergeSort (PySem.W.dataLe false q.toD) = sortF q.lt xs := by
  unfold sortF
  congr 1
  funext x y
  show (!PySem.W.dataLt (q.toD y) (q.toD x)) = _
  rw [q.ltD]
theorem sortF_len (lt : α → α → Bool) (xs : List α) : (sortF lt xs).length = xs.length := List.length_mergeSort _
theorem mem_zipL {α β : Type} {F : α → β → Prop} : ∀ {xs : List α} {ys : List β} {a : α} {b : β}, Paired F xs ys → (a, b) ∈ xs.zip ys → F a b
  | _, _, _, _, .nil, h => by simp at h
  | x :: xs, y :: ys, a, b, .cons h t, z => by
    rw [List.zip_cons_cons] at z
    rcases List.mem_cons.mp z with z | z
    · cases z; exact h
    · exact mem_zipL t z
theorem srt_run {K : PySem.W.Frag} (q : Sb r) (hn8 : q.n ≤ 8) {H : Hp} {O F : List Addr} (d : Dom O F H) {xs : List α} {v : V} (h : (rList r).rp K (hidM m O F H) xs v) {Q : VK}
    (k : ∀ n ys, H n = none → Same H (upd H n (.lst ys)) → Paired (r.rp K (hidM m O F H)) (sortF q.lt xs) ys → Q (.ref n) (upd H n (.lst ys))) : rSortedD K q.toD [v] H Q := by
  obtain ⟨p, vs, rfl, hp, hl, hv⟩ := h
  refine ⟨p, vs, xs, rfl, .inl (.inl (hid_le.get _ _ hp)), Paired.imp hv fun _ _ z => q.dp (r.mono hidM_low z), hl, q.alk, ?_, fun b => Nat.le_trans (q.dep b) hn8, fun ys n hy hn => ?_⟩
  · rcases q.top with t | t
    · exact PySem.W.Sortable.tuples t
    · exact PySem.W.Sortable.others t
  · rw [srt_eq] at hy
    have s := Fx.same_upd (o := .lst ys) hn
    exact k n ys hn s (Paired.imp hy fun _ _ z => mem_zipL hv z)
theorem c_sorted {K : PySem.W.Frag} (q : Sb r) (hn8 : q.n ≤ 8) : C1 K m m (rSortedD K q.toD) (rList r) (rList r) (fun xs => some (sortF q.lt xs)) := fun H O F x z v d h e Q k => by
  cases e
  have hl : x.length ≤ sizeLine := by obtain ⟨p, vs, h1, h2, hl, hv⟩ := h; exact hl
  exact srt_run q hn8 d h fun n ys hn s hp => k _ _ s ⟨n, ys, rfl, hidM_new d hn, by rw [sortF_len]; exact hl, Paired.imp hp fun _ _ => r.mono (hidM_sm s)⟩
theorem fe_sorted {x : Str} {p : Pos} {f : ε → Rs (List α)} (q : Sb r) (hu : X.A.units + 65 < cLine) (hg : Gl X x) (hm : X.mg x = none) (hv : bootBuiltins x = some (.builtin "sorted")) (ha : FE D X K R m e te (rList r) f) (hn : x ≠ "__name__" := by decide) (hdb : (x == ("__debug__" : Str)) = false := by decide) (hn8 : q.n ≤ 8 := by first | decide | exact Nat.le_of_ble_eq_true rfl | exact Nat.lt_of_lt_of_le (Nat.lt_succ_self _) (Nat.le_of_ble_eq_true rfl))
    (he : starEach (e :: []) X.env = (false, eval e X.env) :: starEach [] X.env := by rfl) (hpl : (backTo pos (starEach [] X.env)).any (·.1) = false := by rfl) : FE D X K R m (.Call (.Name x p) [e] [] pos) (tCB (rSortedD K q.toD) (tCons te tNil)) (rList r) (d1 (fun xs => some (sortF q.lt xs)) f) := by
  cases ha.hK
  exact fe_b1 (cr_sortedD hu) (c_sorted q hn8) hg hm hv ha hn hdb he hpl
theorem fn_sorted {x : Str} {p : Pos} {f : ε → Rs (List α)} (q : Sb r) (hu : X.A.units + 65 < cLine) (hg : Gl X x) (hm : X.mg x = none) (hv : bootBuiltins x = some (.builtin "sorted")) (ha : FE D X K R mS e te (rList r) f) (hn : x ≠ "__name__" := by decide) (hdb : (x == ("__debug__" : Str)) = false := by decide) (hn8 : q.n ≤ 8 := by first | decide | exact Nat.le_of_ble_eq_true rfl | exact Nat.lt_of_lt_of_le (Nat.lt_succ_self _) (Nat.le_of_ble_eq_true rfl))
    (he : starEach (e :: []) X.env = (false, eval e X.env) :: starEach [] X.env := by rfl) (hpl : (backTo pos (starEach [] X.env)).any (·.1) = false := by rfl) : FN D X K R (.Call (.Name x p) [e] [] pos) (tCB (rSortedD K q.toD) (tCons te tNil)) (oList r) (d1 (fun xs => some (sortF q.lt xs)) f) := by
  cases ha.hK
  exact ⟨rfl, pe_callB (cr_sortedD hu) hg hm hv (pa_cons ha.pe pa_nil he) hn hdb he hpl, fun H O F E σ I Q k => ha.sem H O F E σ I _ ((good_bind k).mono (fun xs ex k v H1 e1 r1 => by
    have k : ∀ v H' F', Same H H' → _ := k
    have hl : xs.length ≤ sizeLine := by obtain ⟨p, vs, h1, h2, hl, hv⟩ := r1; exact hl
    have nl : NewL X.K r H1 O F (sortF q.lt xs) (fun Q => rSortedD X.K q.toD [v] H1 Q) := fun Q k2 => srt_run q hn8 (Dom.same I.dom e1) r1 fun n ys hn s hp => k2 n _ ys s hn upd_same (by rw [sortF_len]; exact hl) hp
    exact nl.own (Dom.same I.dom e1) Q fun v H' F' e2 n2 nd d2 r2 => k v H' F' (e1.trans e2) (fun p hp => e1.free (n2 p hp)) nd d2 r2) fun c k => k)⟩
end
end Fx

/-! Fx15: comprehensions within comprehensions. -/
namespace Fx
open PySem PySem.Spec L2
variable [Tbs]
theorem blkOk_in {X : Cx} {s : Shared} {H : Hp} {C : Addr} {cl : List (Str × Addr)} {fp : List Addr} {scope0 scope : Scope} {own : List (Str × Nat)} {N : List Str} {sc0 : Scope} (h : blkC N (relS scope0 sc0) scope own = true) (e : X.N = N := by rfl) (e2 : X.env.scope = sc0 := by rfl) :
    BlkOk (X.blk s H scope0 (compEnvC scope0 cl C X.env) fp).N (X.blk s H scope0 (compEnvC scope0 cl C X.env) fp).env.scope scope own := by
  subst e e2
  exact blkOk_by h
end Fx

/-! Fx16: sorted(set(xs)) of a list of whole numbers. -/
namespace Fx
open PySem PySem.Spec L2 PyProof.Rows
variable [Tbs]
section
variable {P : Program} {w : World} {A : Around} {E : Value → Shared → Prop} {s : Shared}
/-- a set as it is made -/
abbrev oSet0 (w : World) : Obj := { cls := .type "set", dict := none, data := .set #[] 0 (.fresh 0 0 (!w.params.followText "set-order")) }
/-- set(l), l a list of whole numbers -/
theorem set_of_ints {l : Addr} {its : Array Value} (ns : List Int) {Q : Value → Shared → Prop} (hh : A.handled = none) (hl : s.heap.IsList l its) (hi : IntsAre its.toList ns) (hb : ns.length + 1 < scanBound)
    (k : ∀ (h' : Heap) (tk c : Nat), SetR w h' s.heap.objs.size (fun j => decide (j ∈ ns)) c → c ≤ ns.length → (∀ b o, s.heap.get? b = some o → h'.get? b = some o) → Q (.ref s.heap.objs.size) { s with heap := h', toks := tk }) :
    wpAny (model P w) A (call (.type "set") [.ref l]) Q E s := by
  have hsz : its.size = ns.length := by rw [← Array.length_toList, IntsAre.length hi]
  obtain ⟨c, tl, hmro⟩ := F.called_set.mro
  have hmade := F.called_set.made
  have hsub := F.called_set.sub
  have hct := F.typeCall_set_1 (.ref l)
  have h1 := F.called_set.notType
  have h2 := F.called_set.canCreate
  refine wpAny_call (codeAny_of_tree ?_)
  show wpAny _ _ (callAny (.type "set") _) _ _ _
  refine wpAny_pure ⟨Code.quiet_builtin _ (by decide +kernel), codeAny_builtin F.entry_type_call ?_⟩
  rw [Around.under_plain (weight_type_call_type "set" [.ref l] []) rfl]
  repeat (any_goals (first | assumption | wp_step))
  refine codeAny_mono (code_set_led1 (.ref l) (E := E) (Q₁ := fun x s₁ => x = .ref s.heap.objs.size ∧ s₁ = { s with heap := s.heap.push (oSet0 w) }) ⟨rfl, rfl⟩) fun r s₁ hr => ?_
  match r, hr with
  | .error e, hr => exact hr
  | .ok .next, hr => exact hr.elim
  | .ok .brk, hr => exact hr.elim
  | .ok .cont, hr => exact hr.elim
  | .ok (.ret x), hr =>
    obtain ⟨rfl, rfl⟩ := hr
    have new : (s.heap.push (oSet0 w)).get? s.heap.objs.size = some (oSet0 w) := Heap.get?_push_size _ rfl
    have ty : Shared.TypeIs { s with heap := s.heap.push (oSet0 w) } (.ref s.heap.objs.size) "set" := ⟨_, new, rfl⟩
    have hli := F.called_set.init.lookup
    have hbi := F.called_set.init.bind (.ref s.heap.objs.size)
    repeat (any_goals (first | assumption | wp_step))
    refine codeAny_mono (codeAny_call_builtin (R := wants (fun r s₂ => r = .none ∧ ∃ h' tk c, s₂ = { s with heap := h', toks := tk } ∧ SetR w h' s.heap.objs.size (fun j => decide (j ∈ ns)) c ∧ c ≤ ns.length ∧
        (∀ b o, s.heap.get? b = some o → h'.get? b = some o)) E) F.called_set.init.plain F.entry_set_init (check_set_init_1 ty ?_)) fun r₂ s₂ hr₂ => ?_
    · obtain ⟨⟨ocls, odict, odata, oslots⟩, hol, hcl, nl, hdl⟩ := hl
      simp only at hcl hdl
      subst hcl hdl
      have old : (s.heap.push (oSet0 w)).get? l = some { cls := .type "list", dict := odict, data := .seq its nl, slots := oslots } := Heap.get?_push_of_some _ hol
      have hsls := F.sub_list_set
      have hslf := F.sub_list_frozenset
      have hne : (Value.type "list" == Value.type "dict") = false := by decide
      have isl : (s.heap.push (oSet0 w)).IsList l its := ⟨_, old, rfl, nl, rfl⟩
      unfold Builtin.«set.__init__» noKeywords Builtin.Frozenset.updateFrom
      generalize hPI : pyIter = PI
      wp_walk
      subst hPI
      refine wpAny_pyIter_list isl (wpAny_bind (wpAny_runValue ?_))
      have lt : l < s.heap.objs.size := Heap.lt_size hol
      have sz : (s.heap.push (oSet0 w)).objs.size = s.heap.objs.size + 1 := Heap.size_push ..
      have ni : l ≠ (s.heap.push (oSet0 w)).objs.size := by rw [sz]; exact Nat.ne_of_lt (Nat.lt_succ_of_lt lt)
      have nf : s.heap.objs.size ∉ [(s.heap.push (oSet0 w)).objs.size, l] := by
        rw [sz]
        simp only [List.mem_cons, List.not_mem_nil, or_false, not_or]
        exact ⟨Nat.ne_of_lt (Nat.lt_succ_self _), Nat.ne_of_gt lt⟩
      have each : ∀ (i : Nat) (v : Value), its[i]? = some v → ∃ k t, ns[i]? = some k ∧ v = .int k t := fun i v hv => by
        have lti : i < ns.length := by rw [← hsz]; exact (Array.getElem?_eq_some_iff.mp hv).1
        obtain ⟨t, e⟩ := IntsAre.int_at hi i v (by rw [Array.getElem?_toList]; exact hv)
        exact ⟨ns[i], t, List.getElem?_eq_getElem lti, by rw [e, List.getD_eq_getElem?_getD, List.getElem?_eq_getElem lti]; rfl⟩
      refine set_update_ints ((Walks.list (by simp [hh]) _ l ni its).toS) s.heap.objs.size nf ns hsz hb each (its.size - 0) 0 _ (by omega) (Nat.zero_le _) ⟨⟨_, Heap.get?_push_size _ rfl, rfl, rfl⟩, (isl.push _)⟩ ⟨0, Nat.le_refl 0, setR_new_at (Heap.get?_push_of_some _ new)⟩ ?_
      rintro ⟨h', g2, d', tk', os'⟩ c' hm hc' hS'
      obtain rfl : g2 = s.gens := hm.gens
      obtain rfl : d' = s.drawn := hm.drawn
      obtain rfl : os' = s.os := hm.os
      show wpAny _ _ _ _ _ _
      refine wpAny_pure ?_
      show wpAny _ _ (ret Value.none) _ _ _
      rw [hsz] at hc'
      refine wpAny_pure ⟨rfl, h', tk', c', rfl, hS', hc', fun b o e => ?_⟩
      have hb0 : b < s.heap.objs.size := Heap.lt_size e
      refine hm.heap b o ?_ (Heap.get?_push_of_some _ (Heap.get?_push_of_some _ e))
      simp only [List.mem_cons, List.not_mem_nil, or_false, not_or]
      rw [sz]
      exact ⟨Nat.ne_of_lt hb0, Nat.ne_of_lt (Nat.lt_succ_of_lt hb0)⟩
    · match r₂, hr₂ with
      | .error e, hr₂ => exact hr₂
      | .ok .next, hr₂ => exact hr₂.elim
      | .ok .brk, hr₂ => exact hr₂.elim
      | .ok .cont, hr₂ => exact hr₂.elim
      | .ok (.ret r), hr₂ =>
        obtain ⟨rfl, h', tk, c', rfl, hS', hc', hk'⟩ := hr₂
        repeat (any_goals (first | assumption | wp_step))
        exact k _ _ _ hS' hc' hk'
/-- sorted(a), a such a set -/
theorem sorted_setN {a : Addr} {S : Int → Bool} {n : Nat} {Q : Value → Shared → Prop} (R : SetR w s.heap a S n) (hh : A.handled = none) (hz : n ≤ sizeLine)
    (k : ∀ s' p (out : Array Value) (c : Nat) (ns : List Int), (∀ b o, s.heap.get? b = some o → s'.heap.get? b = some o) → s'.gens = s.gens → s'.os = s.os → s.heap.objs.size ≤ p →
      s'.heap.get? p = some (seqObj "list" out c) → IntsAre out.toList ns → ns.Pairwise (· < ·) → (∀ k, k ∈ ns ↔ S k = true) → ns.length = n → Q (.ref p) s') :
    wpAny (model P w) A (call (.builtin "sorted") [.ref a]) Q E s := by
  obtain ⟨o, es, ep, t, ho, hex, hd, g, nd, hm, hb, hf, hn, hr, hl⟩ := R
  refine Calls.call_function_entry kind_sorted plain_sorted entry_sorted (args_sorted1 _) ?_
  unfold Builtin.«sorted»
  refine wpAny_bind (m := checkCount "sorted" 1 1 _) (wpAny_pure ?_)
  refine wpAny_bind (collect_set (A := A.in1) hh ⟨o, ho, hex.1, hd⟩ hf hb hr hl fun s1 vs k1 hz1 g1 o1 pm => ?_)
  have hvl : vs.length = n := by rw [pm.length_eq, List.length_map, Array.length_toList]; exact hn
  have hI : IntsAre vs (vs.map Builtin.Re.reRawOf) := ints_of vs fun v hv => by
    obtain ⟨e, he, q⟩ := List.mem_map.mp (pm.mem_iff.mp hv)
    obtain ⟨k, tk, h1, _⟩ := g e he
    exact ⟨k, tk, by rw [← q]; exact h1⟩
  have pk : (vs.map Builtin.Re.reRawOf).Perm (es.toList.map keyOf) := by
    have q := pm.map Builtin.Re.reRawOf
    rw [List.map_map] at q
    exact q
  have hvz : vs.length ≤ sizeLine := by rw [hvl]; exact hz
  have at1 : (s1.heap.push (seqObj "list" vs.toArray 0)).get? s1.heap.objs.size = some (seqObj "list" vs.toArray 0) := Heap.get?_push_size _ rfl
  refine wpAny_bind (wpAny_newList ?_ hvz)
  refine wpAny_bind (wpAny_holding (wpAny_call_entry slot_list_sort ⟨_, at1, rfl⟩ entry_list_sort (SrtO.list_sort_ord SrtO.swo_int at1 hvz (fun h2 => SrtO.ints_sortable hI h2) fun out h1 h2 => ⟨_, rfl, ?_⟩) (args_list_sort _)))
  obtain ⟨a1, a2, a3⟩ := SrtO.ints_out hI h1 h2
  obtain ⟨c, hc⟩ := sortedHeap_at (vs := vs) (out := out.toArray) at1
  have pn : (out.map SrtO.iv).Perm (es.toList.map keyOf) := a2.trans pk
  refine wpAny_pure ⟨_, rfl, k _ s1.heap.objs.size out.toArray c (out.map SrtO.iv) (fun b u e => ?_) g1 o1 hz1 hc a1 (lt_of_le_nodup _ a3 (pn.nodup_iff.mpr nd)) (fun k => by rw [pn.mem_iff, ← hm k]) ?_⟩
  · have q := k1 b u e
    have hlt := Heap.lt_size q
    show (sortedHeap (s1.heap.push (seqObj "list" vs.toArray 0)) s1.heap.objs.size vs out.toArray).get? b = some u
    rw [sortedHeap_old (Nat.ne_of_lt hlt) (by rw [Heap.size_push]; exact Nat.lt_succ_of_lt hlt)]
    exact Heap.get?_push_of_some _ q
  · rw [pn.length_eq, List.length_map, Array.length_toList]; exact hn
end
def tSortSet (K : PySem.W.Frag) (ta : TE) : TE := fun σ H Q => ta σ H fun x H1 => ∃ (l : Addr) (ns : List Int), x = .ref l ∧ SqL K H1 l (ns.map V.int) ∧ ns.length ≤ 4000 ∧ ∀ (p : Addr) (out : List Int), H1 p = none → out.Pairwise (· < ·) → (∀ k, k ∈ out ↔ k ∈ ns) → out.length ≤ ns.length → Q (.ref p) (upd H1 p (.lst (out.map V.int)))
theorem pe_sortedSet {X : Cx} {a : Expr} {ta : TE} {p p2 q pos : Pos} (hg : Gl X "sorted") (hm : X.mg "sorted" = none) (hg2 : Gl X "set") (hm2 : X.mg "set" = none) (ha : PE X a ta) (hc : X.calm = true := by rfl)
    (na : starEach [a] X.env = (false, eval a X.env) :: starEach [] X.env := by rfl) : PE X (.Call (.Name "sorted" p) [.Call (.Name "set" p2) [a] [] q] [] pos) (tSortSet X.K ta) := by
  refine ⟨fun pins s σ H Q I h => ?_⟩
  refine Call_ (ld_blt I hg hm boot_sorted ?_)
  refine PyProof.Rows.callWith_builtin1 (PyProof.Rows.args_cons ?_ rfl) rfl rfl
  refine Call_ (ld_blt I hg2 hm2 boot_set ?_)
  refine PyProof.Rows.callWith_type1 (PyProof.Rows.args_cons (thn (ha.run pins s σ H _ I h) fun v s1 ⟨x, H1, I1, r1, q1⟩ => PyProof.Rows.args_nil ?_) na) na rfl
  obtain ⟨l, ns, rfl, hq, hl, q1⟩ := q1
  cases r1
  obtain ⟨its, r, pl, hz⟩ := I1.list hq
  have hd := I1.ok.hd hc
  refine set_of_ints ns hd pl.isList (by simpa using RZ.intsAre_vals r) (by unfold scanBound; omega) fun h' tk c R1 hcn k => ?_
  refine PyProof.Rows.args_nil ?_
  refine sorted_setN (s := { s1 with heap := h', toks := tk }) R1 hd (by rw [sizeLine_eq]; omega) fun s2 p0 out c2 ns2 k2 g2 o2 hp hat hi hs hmem hlen => ?_
  have kall : ∀ b u, s1.heap.get? b = some u → s2.heap.get? b = some u := fun b u e => k2 b u (k b u e)
  obtain ⟨o, _, _, _, ho, _⟩ := R1
  have hp1 : s1.heap.objs.size ≤ p0 := Nat.le_trans (Nat.le_of_lt (Heap.lt_size ho)) hp
  have hn : H1 p0 = none := I1.hok.fresh hp1
  have hl2 : ns2.length ≤ ns.length := by rw [hlen]; exact hcn
  have hlen2 : (ns2.map V.int).length ≤ sizeLine := by rw [List.length_map, sizeLine_eq]; omega
  have J : Inv X pins σ (upd H1 p0 (.lst (ns2.map V.int))) s2 := I1.call' (ch := []) o2 (Un.laid kall hp1 hn) (I1.hok.laid kall hp1 ⟨hlen2, out.toList, c2, vals_of_ints hi, hat⟩) (by rw [g2]; exact I1.bare) (fun _ z => nomatch z)
  exact ⟨.ref p0, _, J, rfl, q1 p0 ns2 hn hs (fun k => by rw [hmem k, decide_eq_true_eq]) hl2⟩
/-! ### the plain set -/
def insU (x : Int) : List Int → List Int
  | [] => [x]
  | y :: ys => if x < y then x :: y :: ys else if x = y then y :: ys else y :: insU x ys
def setF (ns : List Int) : List Int := ns.foldr insU []
theorem insU_mem (x k : Int) : ∀ ys : List Int, k ∈ insU x ys ↔ k = x ∨ k ∈ ys
  | [] => by simp [insU]
  | y :: ys => by
    unfold insU
    split
    · simp
    · split
      · rename_i h; subst h; simp
      · rw [List.mem_cons, insU_mem x k ys, List.mem_cons]
        constructor
        · rintro (h | h | h)
          · exact .inr (.inl h)
          · exact .inl h
          · exact .inr (.inr h)
        · rintro (h | h | h)
          · exact .inr (.inl h)
          · exact .inl h
          · exact .inr (.inr h)
theorem insU_ris (x : Int) : ∀ {ys : List Int}, ys.Pairwise (· < ·) → (insU x ys).Pairwise (· < ·)
  | [], _ => by simp [insU]
  | y :: ys, h => by
    obtain ⟨h1, h2⟩ := List.pairwise_cons.mp h
    unfold insU
    split
    · rename_i q
      refine List.pairwise_cons.mpr ⟨fun z hz => ?_, h⟩
      rcases List.mem_cons.mp hz with e | e
      · rw [e]; exact q
      · exact Int.lt_trans q (h1 z e)
    · split
      · exact h
      · refine List.pairwise_cons.mpr ⟨fun z hz => ?_, insU_ris x h2⟩
        rcases (insU_mem x z ys).mp hz with e | e
        · rw [e]; omega
        · exact h1 z e
theorem setF_mem {ns : List Int} {k : Int} : k ∈ setF ns ↔ k ∈ ns := by
  unfold setF
  induction ns with
  | nil => simp
  | cons x xs ih => rw [List.foldr_cons, insU_mem, ih, List.mem_cons]
theorem setF_ris (ns : List Int) : (setF ns).Pairwise (· < ·) := by
  unfold setF
  induction ns with
  | nil => exact List.Pairwise.nil
  | cons x xs ih => rw [List.foldr_cons]; exact insU_ris x ih
theorem ris_uniq : ∀ {a b : List Int}, a.Pairwise (· < ·) → b.Pairwise (· < ·) → (∀ k, k ∈ a ↔ k ∈ b) → a = b
  | [], [], _, _, _ => rfl
  | [], y :: ys, _, _, h => by have := (h y).mpr List.mem_cons_self; simp at this
  | x :: xs, [], _, _, h => by have := (h x).mp List.mem_cons_self; simp at this
  | x :: xs, y :: ys, ha, hb, h => by
    obtain ⟨a1, a2⟩ := List.pairwise_cons.mp ha
    obtain ⟨b1, b2⟩ := List.pairwise_cons.mp hb
    have e : x = y := by
      rcases List.mem_cons.mp ((h x).mp List.mem_cons_self) with z | z
      · exact z
      · rcases List.mem_cons.mp ((h y).mpr List.mem_cons_self) with q | q
        · exact q.symm
        · have := b1 x z
          have := a1 y q
          omega
    subst e
    rw [ris_uniq a2 b2 fun k => ⟨fun hk => ?_, fun hk => ?_⟩]
    · rcases List.mem_cons.mp ((h k).mp (List.mem_cons_of_mem _ hk)) with z | z
      · have := a1 k hk; omega
      · exact z
    · rcases List.mem_cons.mp ((h k).mpr (List.mem_cons_of_mem _ hk)) with z | z
      · have := b1 k hk; omega
      · exact z
theorem insU_len (x : Int) : ∀ ys : List Int, (insU x ys).length ≤ ys.length + 1
  | [] => by simp [insU]
  | y :: ys => by
    unfold insU
    split
    · simp
    · split
      · simp
      · have := insU_len x ys
        simp
        omega
theorem setF_len (ns : List Int) : (setF ns).length ≤ ns.length := by
  unfold setF
  induction ns with
  | nil => exact Nat.le_refl _
  | cons x xs ih =>
    rw [List.foldr_cons]
    have := insU_len x (List.foldr insU [] xs)
    rw [List.length_cons]
    omega
section
variable {ε ρ α : Type} {D : EnvD ε} {X : Cx} {K : PySem.W.Frag} {R : Str → Hp → Prop} {m : Md} {te : TE} {e : Expr} {pos : Pos}
noncomputable def setFF : List Int → Option (List Int) := fun ns => cIf (ns.length ≤ 4000) (some (setF ns)) none
theorem setFF_ok {ns : List Int} (h : ns.length ≤ 4000) : setFF ns = some (setF ns) := cIf_pos h
theorem set_run {f : ε → Rs (List Int)} (ha : FE D X K R m e te (rList rInt) f) (H : Hp) (O F : List Addr) (E : ε) (σ : L2.St) (I : RelF D K H O F E σ) (Q : VK)
    (k : Good ((f E).bind fun xs => ofO (setFF xs)) (fun a => ∀ H1 p, Same H H1 → H1 p = none → a.length ≤ sizeLine → Q (.ref p) (upd H1 p (.lst (a.map V.int)))) (fun c => ∀ H', Same H H' → R c H')) : tSortSet X.K te σ H Q := by
  refine ha.sem H O F E σ I _ ((good_bind k).mono (fun xs _ k v H1 e1 r1 => ?_) fun c k => k)
  obtain ⟨p, vs, rfl, hp, hl, hv⟩ := r1
  by_cases c : xs.length ≤ 4000
  · have k : Good (ofO (setFF xs)) _ _ := k
    rw [setFF_ok c] at k
    refine ⟨p, xs, rfl, by rw [← paired_int hv]; exact .inl (.inl (hid_le.get _ _ hp)), c, fun n out hn hs hm hlen => ?_⟩
    have eo : out = setF xs := ris_uniq hs (setF_ris xs) fun j => by rw [hm j, setF_mem]
    subst eo
    exact k H1 n e1 hn (by rw [PySem.sizeLine_eq]; omega)
  · have k : Good (ofO (setFF xs)) _ _ := k
    rw [show setFF xs = none from cIf_neg c] at k
    exact k.elim
variable {p p2 q : Pos} {m' : Md}
theorem fe_sortedSet {f : ε → Rs (List Int)} (hg : Gl X "sorted") (hm : X.mg "sorted" = none) (hg2 : Gl X "set") (hm2 : X.mg "set" = none) (ha : FE D X K R m e te (rList rInt) f) (hc : X.calm = true := by rfl)
    (na : starEach [e] X.env = (false, eval e X.env) :: starEach [] X.env := by rfl) : FE D X K R m' (.Call (.Name "sorted" p) [.Call (.Name "set" p2) [e] [] q] [] pos) (tSortSet K te) (rList rInt) (d1 setFF f) := by
  cases ha.hK
  exact ⟨rfl, pe_sortedSet hg hm hg2 hm2 ha.pe hc na, fun H O F E σ I Q k => set_run ha H O F E σ I Q (k.mono (fun a _ k H1 p e1 hn hl => k _ _ (e1.trans (Fx.same_upd hn)) ⟨p, a.map V.int, rfl, hidM_new (Dom.same I.dom e1) hn, hl, paired_ints a⟩) fun _ k => k)⟩
theorem fn_sortedSet {f : ε → Rs (List Int)} (hg : Gl X "sorted") (hm : X.mg "sorted" = none) (hg2 : Gl X "set") (hm2 : X.mg "set" = none) (ha : FE D X K R m e te (rList rInt) f) (hc : X.calm = true := by rfl)
    (na : starEach [e] X.env = (false, eval e X.env) :: starEach [] X.env := by rfl) : FN D X K R (.Call (.Name "sorted" p) [.Call (.Name "set" p2) [e] [] q] [] pos) (tSortSet K te) (oList rInt) (d1 setFF f) := by
  cases ha.hK
  exact ⟨rfl, pe_sortedSet hg hm hg2 hm2 ha.pe hc na, fun H O F E σ I Q k => set_run ha H O F E σ I Q (k.mono (fun a _ k H1 p e1 hn hl => by
    have nl : NewL X.K rInt H1 O F a (fun Q => Q (.ref p) (upd H1 p (.lst (a.map V.int)))) := fun Q k2 => k2 p _ (a.map V.int) (Fx.same_upd hn) hn upd_same hl (paired_ints a)
    exact nl.own (Dom.same I.dom e1) Q fun v H' F' e2 n2 nd d2 r2 => k v H' F' (e1.trans e2) (fun p hp => e1.free (n2 p hp)) nd d2 r2) fun _ k => k)⟩
end
end Fx

/-! Fx17: a statement that is never come to. -/
namespace Fx
open PySem PySem.Spec L2
variable [Tbs]
section
variable {ε ρ α : Type} {D : EnvD ε} {X : Cx} {K : PySem.W.Frag} {R : Str → Hp → Prop} {rr : RetD ρ} {st : Stmt}
def dBad : ε → Rs (Fl ε ρ) := fun _ => .bad
theorem fs_dead (hK : X.K = K := by rfl) : FS D X K R rr st (fun _ _ _ => False) (dBad (ρ := ρ)) := ⟨hK, ⟨fun _ _ _ _ _ _ h => h.elim⟩, fun _ _ _ _ _ _ _ k => k.elim⟩
end
end Fx

/-! Fx18: list(range(..)). -/
namespace Fx
open PySem PySem.Spec L2
variable [Tbs]
section
variable {ε ρ α : Type} {D : EnvD ε} {X : Cx} {K : PySem.W.Frag} {R : Str → Hp → Prop} {m ma mb : Md} {ta tb : TE} {a b : Expr} {p p2 pos q : Pos} {g h : ε → Rs Int}
theorem rgV_eq (i j : Int) : rgV i j = (rng i (j - i).toNat).map V.int := by
  unfold rgV rng
  rw [List.map_map]
  rfl
/-- the range told by its two ends: what is read, then the new list -/
theorem rg_run (i j : Int) {H1 : Hp} {Q : VK} {W : List Int → Prop} {C : Str → Prop}
    (k : Good (ofO (rngF i j)) W C) (hw : ∀ xs, W xs → xs.length ≤ sizeLine → ∀ n, H1 n = none → Q (.ref n) (upd H1 n (.lst (xs.map V.int)))) : RgOk i j ∧ ∀ q, H1 q = none → Q (.ref q) (upd H1 q (.lst (rgV i j))) := by
  unfold rngF at k
  by_cases c : rngOk i j
  · rw [cIf_pos c] at k
    unfold rngOk at c
    have hz : (j - i).toNat ≤ sizeLine := c.2
    refine ⟨?_, fun n hn => ?_⟩
    · rw [PySem.sizeLine_eq] at hz
      obtain ⟨⟨c1, c2, c3, c4⟩, _⟩ := c
      exact ⟨by omega, by omega, by omega, by omega, by omega⟩
    · rw [rgV_eq]
      exact hw _ k (by rw [rng_len]; exact hz) n hn
  · rw [cIf_neg c] at k; exact k.elim
theorem fe_lrg2 (hc : X.calm = true) (hg : Gl X "list") (hm : X.mg "list" = none) (hg2 : Gl X "range") (hm2 : X.mg "range" = none) (h1 : FE D X K R ma a ta rInt g) (h2 : FE D X K R mb b tb rInt h)
    (na : starEach [a, b] X.env = (false, eval a X.env) :: starEach [b] X.env := by rfl) (nb : starEach [b] X.env = (false, eval b X.env) :: starEach [] X.env := by rfl) (hp : (backTo q (starEach [b] X.env)).any (·.1) = false := by rfl)
    (nr : starEach [.Call (.Name "range" p2) [a, b] [] q] X.env = (false, eval (.Call (.Name "range" p2) [a, b] [] q) X.env) :: starEach [] X.env := by rfl) :
    FE D X K R m (.Call (.Name "list" p) [.Call (.Name "range" p2) [a, b] [] q] [] pos) (tLstRg (tRg2 ta tb)) (rList rInt) (d2 rngF g h) := by
  cases h1.hK
  refine ⟨rfl, pe_listRg hc hg hm (prg_2 hg2 hm2 h1.pe h2.pe na nb hp) nr, fun H O F E σ I Q k => ?_⟩
  refine h1.sem H O F E σ I _ ((good_bind k).mono (fun i _ k v H1 e1 r1 => ?_) fun c k => k)
  refine h2.sem H1 O F E σ (I.same e1) _ ((good_bind k).mono (fun j _ k w H2 e2 r2 => ?_) fun c k H2 e2 => k H2 (e1.trans e2))
  refine ⟨i, j, r1, r2, rg_run i j k fun xs k hl n hn => k _ _ ((e1.trans e2).trans (Fx.same_upd hn)) ⟨n, xs.map V.int, rfl, hidM_new (Dom.same I.dom (e1.trans e2)) hn, hl, paired_ints xs⟩⟩
theorem fe_lrg1 (hc : X.calm = true) (hg : Gl X "list") (hm : X.mg "list" = none) (hg2 : Gl X "range") (hm2 : X.mg "range" = none) (h1 : FE D X K R ma a ta rInt g)
    (na : starEach [a] X.env = (false, eval a X.env) :: starEach [] X.env := by rfl)
    (nr : starEach [.Call (.Name "range" p2) [a] [] q] X.env = (false, eval (.Call (.Name "range" p2) [a] [] q) X.env) :: starEach [] X.env := by rfl) :
    FE D X K R m (.Call (.Name "list" p) [.Call (.Name "range" p2) [a] [] q] [] pos) (tLstRg (tRg1 ta)) (rList rInt) (d1 (rngF 0) g) := by
  cases h1.hK
  refine ⟨rfl, pe_listRg hc hg hm (prg_1 hg2 hm2 h1.pe na) nr, fun H O F E σ I Q k => ?_⟩
  refine h1.sem H O F E σ I _ ((good_bind k).mono (fun j _ k v H1 e1 r1 => ?_) fun c k => k)
  refine ⟨j, r1, rg_run 0 j k fun xs k hl n hn => k _ _ (e1.trans (Fx.same_upd hn)) ⟨n, xs.map V.int, rfl, hidM_new (Dom.same I.dom e1) hn, hl, paired_ints xs⟩⟩
theorem own_list {H H1 : Hp} {O F : List Addr} (d : Dom O F H1) (e1 : Same H H1) {xs : List Int} {n : Addr} (hn : H1 n = none) (hl : xs.length ≤ sizeLine) {Q : VK}
    (k : ∀ v H' F', Same H H' → (∀ p ∈ F', H p = none) → F'.Nodup → (∀ p ∈ F', ∃ u, H' p = some u) → (oList rInt).rp K H' (hid (O ++ F ++ F') H') xs v F' → Q v H') : Q (.ref n) (upd H1 n (.lst (xs.map V.int))) := by
  have nl : NewL K rInt H1 O F xs (fun Q => Q (.ref n) (upd H1 n (.lst (xs.map V.int)))) := fun Q k2 => k2 n _ (xs.map V.int) (Fx.same_upd hn) hn upd_same hl (paired_ints xs)
  exact nl.own d Q fun v H' F' e2 n2 nd d2 r2 => k v H' F' (e1.trans e2) (fun p hp => e1.free (n2 p hp)) nd d2 r2
theorem fn_lrg2 (hc : X.calm = true) (hg : Gl X "list") (hm : X.mg "list" = none) (hg2 : Gl X "range") (hm2 : X.mg "range" = none) (h1 : FE D X K R ma a ta rInt g) (h2 : FE D X K R mb b tb rInt h)
    (na : starEach [a, b] X.env = (false, eval a X.env) :: starEach [b] X.env := by rfl) (nb : starEach [b] X.env = (false, eval b X.env) :: starEach [] X.env := by rfl) (hp : (backTo q (starEach [b] X.env)).any (·.1) = false := by rfl)
    (nr : starEach [.Call (.Name "range" p2) [a, b] [] q] X.env = (false, eval (.Call (.Name "range" p2) [a, b] [] q) X.env) :: starEach [] X.env := by rfl) :
    FN D X K R (.Call (.Name "list" p) [.Call (.Name "range" p2) [a, b] [] q] [] pos) (tLstRg (tRg2 ta tb)) (oList rInt) (d2 rngF g h) := by
  cases h1.hK
  refine ⟨rfl, pe_listRg hc hg hm (prg_2 hg2 hm2 h1.pe h2.pe na nb hp) nr, fun H O F E σ I Q k => ?_⟩
  refine h1.sem H O F E σ I _ ((good_bind k).mono (fun i _ k v H1 e1 r1 => ?_) fun c k => k)
  refine h2.sem H1 O F E σ (I.same e1) _ ((good_bind k).mono (fun j _ k w H2 e2 r2 => ?_) fun c k H2 e2 => k H2 (e1.trans e2))
  refine ⟨i, j, r1, r2, rg_run i j k fun xs k hl n hn => own_list (Dom.same I.dom (e1.trans e2)) (e1.trans e2) hn hl k⟩
theorem fn_lrg1 (hc : X.calm = true) (hg : Gl X "list") (hm : X.mg "list" = none) (hg2 : Gl X "range") (hm2 : X.mg "range" = none) (h1 : FE D X K R ma a ta rInt g)
    (na : starEach [a] X.env = (false, eval a X.env) :: starEach [] X.env := by rfl)
    (nr : starEach [.Call (.Name "range" p2) [a] [] q] X.env = (false, eval (.Call (.Name "range" p2) [a] [] q) X.env) :: starEach [] X.env := by rfl) :
    FN D X K R (.Call (.Name "list" p) [.Call (.Name "range" p2) [a] [] q] [] pos) (tLstRg (tRg1 ta)) (oList rInt) (d1 (rngF 0) g) := by
  cases h1.hK
  refine ⟨rfl, pe_listRg hc hg hm (prg_1 hg2 hm2 h1.pe na) nr, fun H O F E σ I Q k => ?_⟩
  refine h1.sem H O F E σ I _ ((good_bind k).mono (fun j _ k v H1 e1 r1 => ?_) fun c k => k)
  refine ⟨j, r1, rg_run 0 j k fun xs k hl n hn => own_list (Dom.same I.dom e1) e1 hn hl k⟩
end
end Fx

/-! Fx19: sorted(.., key=lambda x: ..), the key a whole number or a pair of such. -/
namespace Fx
open PySem PySem.Spec L2 PyProof.Rows
variable [Tbs]
/-- every object of h stands in h' -/
abbrev Kp (h h' : Heap) : Prop := ∀ b o, h.get? b = some o → h'.get? b = some o
abbrev lamE (X : Cx) (scope : Scope) (L f c' : Addr) : Env := LamX.lamEnv X scope L f c'
/-- the lambda's body, a whole number, by its plain function of the def's names and the item -/
structure RwI {ε α : Type} (D : EnvD ε) (X : Cx) (m : Md) (r : Rp α) (scope : Scope) (px : Str) (e : Expr) (fn : ε → α → Rs Int) : Prop where
  run : ∀ {pins : List (Addr × Obj)} {s : Shared} {σ : L2.St} {H : Hp} {O F : List Addr} {E : ε} {a : α} {v : V} {u : Value} {L f c' : Addr} {g : Heap} {i : Int},
    Inv X pins σ H s → RelF D X.K H O F E σ → r.rp X.K (hidM m O F H) a v → RelV v u → Kp s.heap g → g.Ns L (fun y => [(px, u)].reverse.lookup y) → fn E a = .ok i →
    ∀ (A : Around) (s2 : Shared) (Q : Value → Shared → Prop) (E' : Value → Shared → Prop), Kp g s2.heap → (∀ t tk, Q (.int i t) { s2 with toks := tk }) → wpAny (model X.prog X.w) A (eval e (lamE X scope L f c')) Q E' s2
section
variable {ε α : Type} {D : EnvD ε} {X : Cx} {m : Md} {r : Rp α} {scope : Scope} {px : Str} {a b : Expr} {pos : Pos} {fa fb : ε → α → Rs Int}
theorem rwi_const {i : Int} {j : Nat} : RwI D X m r scope px (.Constant (.int i) j pos) (fun _ _ => .ok i) := ⟨fun I RF rp rv kp ns e A s2 Q E' k2 h => by
  cases e
  exact wpAny_Constant_int (h _ _)⟩
theorem rwi_par (hk : scope.kind = .function := by rfl) (hl : scope.names.lookup px = some .local := by rfl) (hd : (px == ("__debug__" : Str)) = false := by decide) : RwI D X m rInt scope px (.Name px pos) (fun _ x => .ok x) := ⟨fun {pins s σ H O F E a v u L f c' g i} I RF rp rv kp ns e A s2 Q E' k2 h => by
  cases e
  have rp : v = .int a := rp
  subst rp
  obtain ⟨t, rfl⟩ := rv
  refine PySem.wpAny_Name (PySem.wpAny_loadName_local hk hl (Heap.Ns.keeps ns k2) (v := .int a t) (by simp) ?_) hd
  exact h t s2.toks⟩
/-- whole numbers at a place from 0 on -/
def atP (xs : List Int) (i : Int) : Option Int := if 0 ≤ i then atI xs i else none
theorem atP_at {xs : List Int} {i : Int} {z : Int} (h : atP xs i = some z) : 0 ≤ i ∧ i < xs.length ∧ xs[i.toNat]? = some z := by
  unfold atP at h
  split at h
  · rename_i h0
    obtain ⟨j, h1, h2, h3, h4, h5⟩ := atI_get h
    have hj : i.toNat = j := by
      rw [seqIndex_of h0 h5] at h1
      exact Option.some.inj h1
    exact ⟨h0, h5, by rw [hj]; exact h2⟩
  · cases h
theorem list_ints {pins : List (Addr × Obj)} {s : Shared} {σ : L2.St} {H : Hp} {xs : List Int} {v : V} {u : Value} {B : Hp} (hB : Wk B H) (I : Inv X pins σ H s) (h : (rList rInt).rp X.K B xs v) (rv : RelV v u) :
    ∃ (l : Addr) (its : List Value), u = .ref l ∧ s.heap.IsList l its.toArray ∧ xs.length ≤ sizeLine ∧ ∀ (i : Nat) (z : Int), xs[i]? = some z → ∃ t, its[i]? = some (.int z t) := by
  obtain ⟨q, vs, rfl, hq, hl, hv⟩ := h
  cases rv
  obtain ⟨its, r, pl, hz⟩ := I.list (a := q) (xs := vs) (.inl (.inl (hB.get _ _ hq)))
  refine ⟨q, its, rfl, pl.isList, hl, fun i z hi => ?_⟩
  obtain ⟨w, g1, g2⟩ := Paired.get hv hi
  have g2 : w = .int z := g2
  subst g2
  obtain ⟨w2, e2, t, r2⟩ := r.get g1
  exact ⟨t, by rw [e2, ← r2]⟩
theorem ix_raw {A : Around} {s2 : Shared} {Q E' : Value → Shared → Prop} {x y : Expr} {l : Addr} {its : List Value} {xs : List Int} {i z : Int} {t : Tok} (hl : s2.heap.IsList l its.toArray) (hz : xs.length ≤ sizeLine) (hi : ∀ (i : Nat) (z : Int), xs[i]? = some z → ∃ t, its[i]? = some (.int z t))
    (e : atP xs i = some z) (hs : subscripted y false (.ref l) (.int i t) = operate [.ref l, .int i t] (getItem (.ref l) (.int i t))) (h : ∀ t, Q (.int z t) s2) : wpAny (model X.prog X.w) A (subscriptTail x y (.ref l) (.int i t)) Q E' s2 := by
  obtain ⟨h0, h5, hx⟩ := atP_at e
  obtain ⟨t2, ht⟩ := hi _ _ hx
  have hn := line63
  exact PyProof.Rows.item_listR hl h0 (by omega) (by simpa using ht) (h t2) hs
theorem isList_kp {h h' : Heap} {l : Addr} {vs : Array Value} (x : h.IsList l vs) (k : Kp h h') : h'.IsList l vs := by
  obtain ⟨o, e, r⟩ := x
  exact ⟨o, k _ _ e, r⟩
/-- the item's own numbers -/
theorem rwi_ixpar {fb : ε → List Int → Rs Int} {pp : Pos} (hb : RwI D X m (rList rInt) scope px b fb) (hs : PlainIx b := by intro _ _; rfl) (hk : scope.kind = .function := by rfl) (hl : scope.names.lookup px = some .local := by rfl) (hd : (px == ("__debug__" : Str)) = false := by decide) :
    RwI D X m (rList rInt) scope px (.Subscript (.Name px pp) b pos) (fun E x => (fb E x).bind fun i => ofO (atP x i)) := ⟨fun {pins s σ H O F E x v u L f c' g i} I RF rp rv kp ns e A s2 Q E' k2 h => by
  cases ei : fb E x with
  | exc c => rw [ei] at e; cases e
  | bad => rw [ei] at e; cases e
  | ok j =>
    rw [ei] at e
    have e : ofO (atP x j) = .ok i := e
    cases ea : atP x j with
    | none => rw [ea] at e; cases e
    | some z =>
      rw [ea] at e
      cases e
      obtain ⟨l, its, rfl, pl, hz, hi⟩ := list_ints hidM_low I rp rv
      refine PyProof.Rows.Subscript_ (PySem.wpAny_Name (PySem.wpAny_loadName_local hk hl (Heap.Ns.keeps ns k2) (v := .ref l) (by simp) ?_) hd)
      exact hb.run I RF rp rv kp ns ei A s2 _ E' k2 fun t tk => ix_raw (isList_kp pl fun b o z => k2 b o (kp b o z)) hz hi ea (hs _ _) fun t => h t tk⟩
/-- numbers of a list that the def has by a name -/
theorem rwi_ixcell {fb : ε → α → Rs Int} {i : Nat} {y : Str} {gt : ε → Option (List Int)} (hg : ∀ {K : PySem.W.Frag} {H : Hp} {O F : List Addr} {E : ε} {σ : L2.St}, RelF D K H O F E σ → ∀ xs, gt E = some xs → ∃ v B, σ[i]? = some (some v) ∧ Wk B H ∧ (rList rInt).rp K B xs v) {pp : Pos} (hb : RwI D X m r scope px b fb) (hN : X.N[i]? = some y := by rfl)
    (hv : X.env.scope.names.lookup y = some .cell := by rfl) (hf : scope.names.lookup y = some .free := by rfl) (hs : PlainIx b := by intro _ _; rfl) (hk : scope.kind = .function := by rfl) (hd : (y == ("__debug__" : Str)) = false := by decide) (hcd : (y == ("__classdict__" : Str)) = false := by decide) :
    RwI D X m r scope px (.Subscript (.Name y pp) b pos) (fun E x => (ofO (gt E)).bind fun xs => (fb E x).bind fun i => ofO (atP xs i)) := ⟨fun {pins s σ H O F E x v u L f c' g z} I RF rp rv kp ns e A s2 Q E' k2 h => by
  cases eg : gt E with
  | none => rw [eg] at e; cases e
  | some xs =>
    rw [eg] at e
    have e : ((fb E x).bind fun i => ofO (atP xs i)) = .ok z := e
    cases ei : fb E x with
    | exc c => rw [ei] at e; cases e
    | bad => rw [ei] at e; cases e
    | ok j =>
      rw [ei] at e
      have e : ofO (atP xs j) = .ok z := e
      cases ea : atP xs j with
      | none => rw [ea] at e; cases e
      | some z2 =>
        rw [ea] at e
        cases e
        obtain ⟨w, B, q1, q2, q3⟩ := hg RF xs eg
        obtain ⟨m0, hn, hloc⟩ := I.loc
        obtain ⟨u2, r2, lk⟩ := hloc i y w hN q1 (.inr (.inl hv))
        obtain ⟨l, its, rfl, pl, hz, hi⟩ := list_ints q2 I q3 r2
        rcases lk with ⟨k1, _⟩ | ⟨_, c, hc, hcell⟩
        · have k1 : X.env.scope.names.lookup y = some .local := k1
          rw [hv] at k1; cases k1
        · have kk : Kp s.heap s2.heap := fun b o z => k2 b o (kp b o z)
          have hcl : (cloFrom X.env.cells scope.names []).lookup y = some c := by
            obtain ⟨c2, h2⟩ := mem_lookup (cloFrom_has (cells := X.env.cells) (acc := []) (PySem.mem_of_lookup hf))
            rcases cloFrom_mem (PySem.mem_of_lookup h2) with hm | ⟨_, h4⟩
            · cases hm
            · rw [h2]
              have hc : X.env.cells.lookup y = some c := hc
              have : c2 = c := by rw [h4, hc] <;> rfl
              rw [this]
          refine PyProof.Rows.Subscript_ (PySem.wpAny_Name (PySem.wpAny_loadName_free hk hf hcl (v := .ref l) (by obtain ⟨o, ho, hd⟩ := hcell; exact ⟨o, kk _ _ ho, hd⟩) ?_ hcd) hd)
          exact hb.run I RF rp rv kp ns ei A s2 _ E' k2 fun t tk => ix_raw (isList_kp pl kk) hz hi ea (hs _ _) fun t => h t tk⟩
theorem rwi_sub (ha : RwI D X m r scope px a fa) (hb : RwI D X m r scope px b fb) : RwI D X m r scope px (.BinOp a .Sub b pos) (fun E x => (fa E x).bind fun i => (fb E x).bind fun j => .ok (i - j)) := ⟨fun {pins s σ H O F E x v u L f c' g z} I RF rp rv kp ns e A s2 Q E' k2 h => by
  cases ei : fa E x with
  | exc c => rw [ei] at e; cases e
  | bad => rw [ei] at e; cases e
  | ok i =>
    rw [ei] at e
    cases ej : fb E x with
    | exc c => rw [ej] at e; cases e
    | bad => rw [ej] at e; cases e
    | ok j =>
      rw [ej] at e
      cases e
      refine PySem.wpAny_BinOp (ha.run I RF rp rv kp ns ei A s2 _ E' k2 fun t tk => hb.run I RF rp rv kp ns ej A _ _ E' k2 fun t2 tk2 => PyProof.Rows.sub_int ?_)
      exact h _ _⟩
end
/-- .. a key -/
structure RwK {ε α κ : Type} (D : EnvD ε) (X : Cx) (m : Md) (r : Rp α) (scope : Scope) (px : Str) (e : Expr) {rk : Rp κ} (q : Sb rk) (fn : ε → α → Rs κ) : Prop where
  run : ∀ {pins : List (Addr × Obj)} {s : Shared} {σ : L2.St} {H : Hp} {O F : List Addr} {E : ε} {a : α} {v : V} {u : Value} {L f c' : Addr} {g : Heap} {k : κ},
    Inv X pins σ H s → RelF D X.K H O F E σ → r.rp X.K (hidM m O F H) a v → RelV v u → Kp s.heap g → g.Ns L (fun y => [(px, u)].reverse.lookup y) → fn E a = .ok k →
    ∀ (A : Around) (s2 : Shared) (Q : Value → Shared → Prop) (E' : Value → Shared → Prop), Kp g s2.heap → (∀ v h' tk, Kp s2.heap h' → Reads h' v (q.toD k) [] → Q v { s2 with heap := h', toks := tk }) → wpAny (model X.prog X.w) A (eval e (lamE X scope L f c')) Q E' s2
section
variable {ε α κ : Type} {D : EnvD ε} {X : Cx} {m : Md} {r : Rp α} {scope : Scope} {px : Str} {a b e : Expr} {pos : Pos} {fa fb : ε → α → Rs Int}
theorem rwk_int (ha : RwI D X m r scope px a fa) : RwK D X m r scope px a sInt fa := ⟨fun {pins s σ H O F E x v u L f c' g k} I RF rp rv kp ns e A s2 Q E' k2 h =>
  ha.run I RF rp rv kp ns e A s2 Q E' k2 fun t tk => h _ s2.heap tk (fun _ _ z => z) (.int _ _)⟩
theorem rwk_pair {x1 : Nat} (ha : RwI D X m r scope px a fa) (hb : RwI D X m r scope px b fb) (hs : ∀ env, starEach [a, b] env = [(false, eval a env), (false, eval b env)] := by intro _; rfl) :
    RwK D X m r scope px (.Tuple [a, b] x1 pos) (sTup sInt (sC sInt sNil)) (fun E x => (fa E x).bind fun i => (fb E x).bind fun j => .ok (i, j, ())) := ⟨fun {pins s σ H O F E x v u L f c' g k} I RF rp rv kp ns e A s2 Q E' k2 h => by
  cases ei : fa E x with
  | exc c => rw [ei] at e; cases e
  | bad => rw [ei] at e; cases e
  | ok i =>
    rw [ei] at e
    cases ej : fb E x with
    | exc c => rw [ej] at e; cases e
    | bad => rw [ej] at e; cases e
    | ok j =>
      rw [ej] at e
      cases e
      refine wpAny_Tuple_spliced ?_
      rw [hs]
      show wpAny _ _ (spliced [(false, eval a (lamE X scope L f c')), (false, eval b (lamE X scope L f c'))]) _ _ s2
      refine Calls.spliced_cons (ha.run I RF rp rv kp ns ei A s2 _ E' k2 fun t tk => Calls.spliced_cons (hb.run I RF rp rv kp ns ej A _ _ E' k2 fun t2 tk2 => Calls.spliced_nil ⟨?_, ?_⟩))
      · exact line1000 (show 2 ≤ 1000 by decide)
      · refine h _ _ tk2 (fun b o z => Heap.get?_push_of_some _ z) ?_
        exact .tuple (Heap.get?_push_size _ rfl) rfl rfl (.cons (as := []) (bs := []) (.int i t) (.cons (as := []) (bs := []) (.int j t2) .nil))⟩
theorem lam_turn {rk : Rp κ} {q : Sb rk} {fn : ε → α → Rs κ} {params : Arguments} {body : Expr} {pins : List (Addr × Obj)} {s : Shared} {σ : L2.St} {H : Hp} {O F : List Addr} {E : ε} {x : α} {v : V} {u : Value} {f c' : Addr} {pm ctv : Value} {k : κ}
    (hb : RwK D X m r scope px body q fn) (I : Inv X pins σ H s) (RF : RelF D X.K H O F E σ) (rp : r.rp X.K (hidM m O F H) x v) (rv : RelV v u) (hk : fn E x = .ok k)
    (hf : s.heap.get? f = some (PySem.W.kla_obj "<lambda>" (X.env.qual ++ "<lambda>") params body scope (cloFrom X.env.cells scope.names []) pm c' ctv)) (hc : H c' = some (LamX.CodeO c' (X.env.qual ++ "<lambda>")))
    (hbind : ∀ (qu : Str) (cl : List (Str × Addr)) (pm cv ctv w : Value), bindArgs (PySem.W.kla_fn "<lambda>" qu params body scope cl pm cv ctv) ⟨[w], []⟩ = pure [(px, w)])
    (hkind : scope.kind = .function) (hco : scope.isCoroutine = false) (hgen : scope.isGenerator = false) (hcell : ∀ y ∈ scope.names, y.2 ≠ .cell) (hpx : scope.names.lookup px = some .local)
    (A : Around) (hA : A.depth < recursionLimit) (h : Heap) (tk : Nat) (kp : Kp s.heap h) :
    wpAny (model X.prog X.w) A (PySem.call (.ref f) [u]) (PySem.W.KeyPure (q.toD k) { s with heap := h, toks := tk }) (fun _ _ => False) { s with heap := h, toks := tk } := by
  obtain ⟨⟨oc, vs, t, hoc, hdc, hvc⟩, _, _⟩ := I.hok c' _ hc
  have rc : codeAny (model X.prog X.w) A (.call (.ref f) ⟨[u], []⟩) (fun r s' => ∃ w, r = .ok (.ret w) ∧ PySem.W.KeyPure (q.toD k) { s with heap := h, toks := tk } w s') { s with heap := h, toks := tk } := by
    refine PySem.W.kla_callFunE hA (kp _ _ hf) rfl hco hgen rfl ⟨c', oc, vs, t, rfl, kp _ _ hoc, hdc, hvc⟩ ?_
    rw [hbind]
    refine wpAny_pure (wpAny_newFunctionEnv hcell (fun y hy => by rw [List.mem_singleton.mp hy]; exact hpx) (fun h₁ hns hsb => ⟨(Heap.NoLimit.keeps I.nolimit kp).fresh _ hsb, ?_⟩) hkind)
    have kp1 : Kp h h₁ := fun b o e => hsb.extBut b o (Nat.ne_of_lt (Heap.lt_size e)) (Heap.get?_push_of_some _ e)
    refine PySem.W.kla_codeExpr ?_
    refine hb.run (L := h.objs.size) (f := f) (c' := c') I RF rp rv (fun b o e => kp1 b o (kp b o e)) hns hk _ _ _ _ (fun _ _ e => e) fun w h' tk' k' rd => ⟨w, rfl, h', tk', rfl, fun b o e => k' b o (kp1 b o e), rd⟩
  refine wpAny_call (codeAny_mono rc fun r s' hq => ?_)
  obtain ⟨w, rfl, hw⟩ := hq
  exact hw
theorem paired_lookup {β γ : Type} {F : β → γ → Prop} : ∀ {xs : List β} {ys : List γ}, xs.length = ys.length → (∀ (i : Nat) (x : β) (y : γ), xs[i]? = some x → ys[i]? = some y → F x y) → Paired F xs ys
  | [], [], _, _ => .nil
  | x :: xs, y :: ys, h, f => .cons (f 0 x y rfl rfl) (paired_lookup (by simpa using h) fun i a b ha hb => f (i + 1) a b (by simpa using ha) (by simpa using hb))
theorem eachIs_paired {β : Type} {G : V → β → Prop} : ∀ {vs : List V} {us : List Value} {bs : List β}, Vals vs us → Paired (fun b v => G v b) bs vs → PySem.W.EachIs (fun (u : Value) b => ∃ x, RelV x u ∧ G x b) us bs
  | _, _, _, .nil, .nil => .nil
  | _, _, _, .cons r t, .cons h t2 => .cons ⟨_, r, h⟩ (eachIs_paired t t2)
/-- the items in the order of their keys -/
def sortK (lt : κ → κ → Bool) (xs : List α) (ks : List κ) : List α := ((ks.zip xs).mergeSort fun a b => !lt b.1 a.1).map (·.2)
theorem sortK_len {lt : κ → κ → Bool} {xs : List α} {ks : List κ} (h : ks.length = xs.length) : (sortK lt xs ks).length = xs.length := by
  unfold sortK
  rw [List.length_map, List.length_mergeSort, List.length_zip, h, Nat.min_self]
theorem srtk_eq {rk : Rp κ} (q : Sb rk) (bs : List (κ × α)) : bs.mergeSort (PySem.W.dataLe false fun b => q.toD b.1) = bs.mergeSort fun a b => !q.lt b.1 a.1 := by
  congr 1
  funext x y
  show (!PySem.W.dataLt (q.toD y.1) (q.toD x.1)) = _
  rw [q.ltD]
/-- what the making and the calling of the lambda ask for -/
structure LamOk (X : Cx) (scope : Scope) (px : Str) (params : Arguments) (body : Expr) : Prop where
  tab : ∃ c P, LamX.TabB X.base X.mg c P ∧ X.env.code = .ref c ∧ (P, X.env.qual ++ "<lambda>") ∈ Tbs.T ∧ ∀ p ∈ Tbs.T, p.1 = P → p.2 = X.env.qual ++ "<lambda>"
  hdef : defaultsOf params X.env = ([], [])
  bind : ∀ (qu : Str) (cl : List (Str × Addr)) (pm cv ctv w : Value), bindArgs (PySem.W.kla_fn "<lambda>" qu params body scope cl pm cv ctv) ⟨[w], []⟩ = pure [(px, w)]
  kind : scope.kind = .function
  co : scope.isCoroutine = false
  gen : scope.isGenerator = false
  cell : ∀ y ∈ scope.names, y.2 ≠ .cell
  px : scope.names.lookup px = some .local
  free : ∀ y ∈ scope.names, y.2 = .free → X.env.scope.names.lookup y.1 = some .cell ∨ X.env.scope.names.lookup y.1 = some .free
/-- the heaps behind a lambda's making -/
theorem lam_same {H : Hp} {P c' : Addr} {ps more : Array Value} {q : Str} (T : LamX.Tabs Tbs.T H) (hm : (P, q) ∈ Tbs.T) (hu : ∀ p ∈ Tbs.T, p.1 = P → p.2 = q) (hP : H P = some (.tbl ps)) (nC : H c' = none)
    (new : TriplesOk (ps ++ more).toList ∧ ∀ (pos : Pos) (cv : Value), codeAmong pos (ps ++ more).toList = some cv → codeAmong pos ps.toList = some cv ∨ cv = .ref c') : Same H (upd (upd H P (.tbl (ps ++ more))) c' (LamX.CodeO c' q)) := by
  have at_ : ∀ b, b ≠ P → b ≠ c' → upd (upd H P (.tbl (ps ++ more))) c' (LamX.CodeO c' q) b = H b := fun b h1 h2 => by rw [upd_ne h2, upd_ne h1]
  have atP : upd (upd H P (.tbl (ps ++ more))) c' (LamX.CodeO c' q) P = some (.tbl (ps ++ more)) := by rw [upd_ne (ne_of_none hP nC), upd_same]
  have code : ∀ a x, H a = some (LamX.CodeO a x) → upd (upd H P (.tbl (ps ++ more))) c' (LamX.CodeO c' q) a = some (LamX.CodeO a x) := fun a x h => by
    rw [at_ a (fun z => by rw [z, hP] at h; exact LamX.codeO_ne ps (Option.some.inj h).symm) (ne_of_none h nC)]
    exact h
  refine ⟨.mk fun b o h n => ?_, fun b qs h => ?_, fun _ p hp => ?_⟩
  · rw [at_ b (fun z => by rw [z, hP] at h; exact n ps (Option.some.inj h).symm) (ne_of_none h nC)]
    exact h
  · by_cases hb : b = P
    · subst hb
      rw [hP] at h
      cases h
      exact ⟨more, atP⟩
    · exact ⟨#[], by rw [at_ b hb (ne_of_none h nC), Array.append_empty]; exact h⟩
  · obtain ⟨qs, h1, h2, h3⟩ := T p hp
    by_cases hb : p.1 = P
    · have eq := hu p hp hb
      rw [hb] at h1 ⊢
      rw [hP] at h1
      cases h1
      refine ⟨_, atP, new.1, fun pos cv hc => ?_⟩
      rcases new.2 pos cv hc with z | z
      · obtain ⟨a, g1, g2⟩ := h3 pos cv z
        exact ⟨a, g1, code _ _ g2⟩
      · exact ⟨c', z, by rw [upd_same, eq]⟩
    · refine ⟨qs, by rw [at_ p.1 hb (ne_of_none h1 nC)]; exact h1, h2, fun pos cv hc => ?_⟩
      obtain ⟨a, g1, g2⟩ := h3 pos cv hc
      exact ⟨a, g1, code _ _ g2⟩
theorem lam_mk {params : Arguments} {body : Expr} {pins : List (Addr × Obj)} {s : Shared} {σ : L2.St} {H : Hp} {lpos : Pos} {Q E' : Value → Shared → Prop} (LO : LamOk X scope px params body) (I : Inv X pins σ H s) (T : LamX.Tabs Tbs.T H)
    (h : ∀ (f c' : Addr) (pm ctv : Value) (H1 : Hp) (s' : Shared), Inv X pins σ H1 s' → Same H H1 → (∀ b o, s.heap.get? b = some o → o.cls ≠ .none → s'.heap.get? b = some o) →
      s'.heap.get? f = some (PySem.W.kla_obj "<lambda>" (X.env.qual ++ "<lambda>") params body scope (cloFrom X.env.cells scope.names []) pm c' ctv) → H1 c' = some (LamX.CodeO c' (X.env.qual ++ "<lambda>")) → Q (.ref f) s') :
    wpAny (model X.prog X.w) X.A (eval (.Lambda params body scope lpos) X.env) Q E' s := by
  obtain ⟨c, P, TB, hcode, hm, hu⟩ := LO.tab
  obtain ⟨ps, hP, ht, ha⟩ := T _ hm
  have hcl : closureFor scope X.env = pure (cloFrom X.env.cells scope.names []) := closure_ok fun y hy e => by
    rcases LO.free y hy e with z | z
    · exact I.ok.has _ (.inl z)
    · exact I.ok.has _ (.inr z)
  have hPo : s.heap.get? P = some { cls := .none, data := .fields ps } := I.hok P _ hP
  have bP := TB.bm.keeps I.bk
  have cP := TB.code.keeps I.bk
  have gl := I.mod.glob.keeps I.bk
  refine PySem.W.kla_eval LO.hdef ?_
  cases hc : codeAmong lpos ps.toList with
  | some cv =>
    obtain ⟨c', rfl, hco⟩ := ha lpos cv hc
    refine PySem.W.kla_makeFunctionHit (mg := X.mg) (c := c) (P := P) (ps := ps) hcl I.ok.glob gl hcode cP hPo ht hc bP fun ctv h' tk hx hsz => ?_
    exact h h'.objs.size c' _ ctv H _ (I.kept fun b o e => Heap.get?_push_of_some _ (hx b o e)) (Same.refl H) (fun b o e _ => Heap.get?_push_of_some _ (hx b o e)) (Heap.get?_push_size _ rfl) hco
  | none =>
    refine PySem.W.kla_makeFunction (mg := X.mg) (c := c) (P := P) (ps := ps) hcl I.ok.glob gl hcode cP hPo ht hc TB.gP bP fun c' ctv h' tk hx hge hlt hrec htb => ?_
    obtain ⟨c2, oc, vs, t, e2, hoc, hd, hv⟩ := hrec
    cases e2
    have nC : H c' = none := I.hok.fresh hge
    have I1 := LamX.inv_table (t' := tk) (more := #[rawInt lpos.line, rawInt lpos.col, .ref c']) (h' := h'.push (PySem.W.kla_obj "<lambda>" (X.env.qual ++ "<lambda>") params body scope (cloFrom X.env.cells scope.names []) ((X.mg "__name__").getD .none) c' ctv)) I hP
      (fun b o hb e => Heap.get?_push_of_some _ (hx b o hb e)) (Heap.get?_push_of_some _ htb) hge ⟨oc, vs, t, Heap.get?_push_of_some _ hoc, hd, hv⟩
    refine h h'.objs.size c' _ ctv _ _ I1 (lam_same T hm hu hP nC ⟨?_, fun pos cv hcv => ?_⟩) (fun b o e n => Heap.get?_push_of_some _ (hx b o (fun z => by
      rw [z, hPo] at e
      exact n (by rw [← Option.some.inj e])) e)) (Heap.get?_push_size _ rfl) upd_same
    · rw [show (ps ++ #[rawInt lpos.line, rawInt lpos.col, .ref c']).toList = ps.toList ++ [rawInt lpos.line, rawInt lpos.col, .ref c'] by simp]
      exact PySem.TriplesOk_snoc _ _ _ _ ht
    · rw [show (ps ++ #[rawInt lpos.line, rawInt lpos.col, .ref c']).toList = ps.toList ++ [rawInt lpos.line, rawInt lpos.col, .ref c'] by simp] at hcv
      exact LamX.among_app _ ht hcv
/-- a new list, wherever it stands -/
theorem inv_new {pins : List (Addr × Obj)} {s : Shared} {σ : L2.St} {H : Hp} {a : Addr} {ys : List V} {its : List Value} {h' : Heap} {t' c : Nat} (I : Inv X pins σ H s) (k : Kp s.heap h') (hn : s.heap.get? a = none) (hy : ys.length ≤ sizeLine) (rv : Vals ys its)
    (ho : h'.get? a = some (seqObj "list" its.toArray c)) : H a = none ∧ Inv X pins σ (upd H a (.lst ys)) { s with heap := h', toks := t' } := by
  have hH : H a = none := by
    cases q : H a with
    | none => rfl
    | some u =>
      have := I.hok a u q
      have : ∃ o, s.heap.get? a = some o := by
        clear q
        induction u with
        | lst xs => obtain ⟨_, _, _, _, e⟩ := this; exact ⟨_, e⟩
        | tup xs => obtain ⟨_, _, _, o, e, _⟩ := this; exact ⟨_, e⟩
        | dK kvs => obtain ⟨_, _, _, _, o, _, _, e, _⟩ := this; exact ⟨_, e⟩
        | dT kvs => obtain ⟨_, _, _, _, o, _, _, e, _⟩ := this; exact ⟨_, e⟩
        | set S n => obtain ⟨o, _, _, _, e, _⟩ := this; exact ⟨_, e⟩
        | ins C dx fs => obtain ⟨_, _, _, e, _⟩ := this; exact ⟨_, e⟩
        | own y => obtain ⟨_, e⟩ := this; exact ⟨_, e⟩
        | xd fs => obtain ⟨_, ⟨_, _, _, e, _⟩, _⟩ := this; exact ⟨_, e⟩
        | rng lo hi => obtain ⟨_, _, _, e⟩ := this; exact ⟨_, e⟩
        | frz ob u => obtain ⟨e, _⟩ := this; exact ⟨_, e⟩
        | tbl ps => exact ⟨_, (show s.heap.get? a = some _ from this)⟩
        | met f y => exact ⟨_, (show s.heap.get? a = some _ from this)⟩
        | ext φ => obtain ⟨_, ⟨_, e⟩, _⟩ := this; exact ⟨_, e⟩
      obtain ⟨o, e⟩ := this
      rw [hn] at e; cases e
  have sm : ∀ b u, H b = some u → upd H a (.lst ys) b = some u := fun b u e => by rw [upd_ne (ne_of_none e hH)]; exact e
  have ne : ∀ b o, s.heap.get? b = some o → b ≠ a := fun b o e z => by rw [z, hn] at e; cases e
  refine ⟨hH, I.step (g' := s.gens) (d' := s.drawn) (ch := []) (fun b hb => absurd hb (by simp)) (fun b o _ _ _ e _ => k b o e) (fun b o _ _ _ e _ => ⟨o.slots, k b o e⟩) (fun b o _ e n => by rw [upd_ne (ne b o e)]; exact n) (fun b o _ e => ⟨o, k b o e⟩)
    (fun b xs e => sm b _ e) (fun b o u e => sm b _ e) (fun b qs e => ⟨#[], by rw [sm b _ e]; simp⟩) (fun m hns => Heap.Ns.keeps hns k) (fun b u e => ?_) I.bare⟩
  by_cases hb : b = a
  · subst hb
    rw [upd_same] at e
    cases e
    exact ⟨hy, its, c, rv, ho⟩
  · rw [upd_ne hb] at e
    exact (I.hok b u e).stay (fun d v _ q => k d v q) (fun d q => sm d _ q) fun d xs q => sm d _ q
theorem keyed_core {rk : Rp κ} {q : Sb rk} {fn : ε → α → Rs κ} {params : Arguments} {body : Expr} {pins : List (Addr × Obj)} {s : Shared} {σ : L2.St} {H : Hp} {O F : List Addr} {E : ε} {xs : List α} {ks : List κ} {v0 : Value} {Q : VK} {lpos : Pos} {k : Nat}
    (hb : RwK D X m r scope px body q fn) (LO : LamOk X scope px params body) (hr : Room k X.A) (hq8 : q.n ≤ 8) (I : Inv X pins σ H s) (RF : RelF D X.K H O F E σ) (hlen : ks.length = xs.length) (hks : ∀ (i : Nat) (x : α) (y : κ), xs[i]? = some x → ks[i]? = some y → fn E x = .ok y) (hz : xs.length ≤ sizeLine)
    (col : ∀ (s2 : Shared) (H2 : Hp), Inv X pins σ H2 s2 → Same H H2 → (∀ b o, s.heap.get? b = some o → o.cls ≠ .none → s2.heap.get? b = some o) → ∀ (Q : List Value → Shared → Prop) (E' : Value → Shared → Prop), (∀ its vs h' tk, Kp s2.heap h' → Vals vs its → Paired (r.rp X.K (hidM m O F H)) xs vs → Q its { s2 with heap := h', toks := tk }) → wpAny (model X.prog X.w) X.A.in1 (collect v0) Q E' s2)
    (isref : ∃ l, v0 = .ref l)
    (post : ∀ H2 n ys, Same H H2 → H2 n = none → Paired (r.rp X.K (hidM m O F H)) (sortK q.lt xs ks) ys → Q (.ref n) (upd H2 n (.lst ys))) :
    wpAny (model X.prog X.w) X.A (eval (.Lambda params body scope lpos) X.env) (fun f s2 => wpAny (model X.prog X.w) X.A (PySem.call (.builtin "sorted") [v0] [(Str.ofString "key", f)]) (EP X pins σ Q) X.xe s2) X.xe s := by
  obtain ⟨l0, rfl⟩ := isref
  refine lam_mk LO I RF.tab fun f c' pm ctv H1 s' I1 sm kp0 hf hco => ?_
  have hA := hr.dp
  have hU := hr.un
  refine call_function_entry_kw kind_sorted plain_sorted entry_sorted (PyProof.Rows.ksk_s1 _ _) ?_
  unfold Builtin.«sorted»
  refine wpAny_bind (m := checkCount "sorted" 1 1 (_)) (wpAny_pure ?_)
  refine wpAny_bind (col s' H1 I1 sm kp0 _ _ fun its vs h2 tk2 k2 rv pv => ?_)
  have hl1 := rv.length
  have hl2 := Paired.len pv
  have hbl : (ks.zip xs).length = xs.length := by rw [List.length_zip, hlen, Nat.min_self]
  refine wpAny_bind (wpAny_newList ?_ (by omega))
  have hp : Paired (fun (b : κ × α) v => r.rp X.K (hidM m O F H) b.2 v ∧ fn E b.2 = .ok b.1) (ks.zip xs) vs := by
    refine paired_lookup (by omega) fun i b v hb hv => ?_
    rw [List.getElem?_zip_eq_some] at hb
    obtain ⟨w, g1, g2⟩ := Paired.get pv hb.2
    rw [g1] at hv
    cases hv
    exact ⟨g2, hks i _ _ hb.2 hb.1⟩
  refine wpAny_bind (wpAny_holding ?_)
  refine PySem.W.list_sort_key_data (A := X.A.in1) (b := false) (vs := its) (bs := ks.zip xs) (n := 0) (R := fun (u : Value) (b : κ × α) => ∃ x, RelV x u ∧ r.rp X.K (hidM m O F H) b.2 x ∧ fn E b.2 = .ok b.1) (k := fun b : κ × α => q.toD b.1) (Heap.get?_push_size _ rfl)
    (eachIs_paired rv hp) (PySem.W.AllAlike.of fun x y => q.alk x.1 y.1) ?_ (by omega) (fun b _ => ?_) (PyProof.Rows.ksk_l1 _ _) (PyProof.Rows.ksk_t1 _ _) (fun u b ⟨x, a1, a2, a3⟩ _ h3 tk3 kb => ?_) fun out c h3 tk3 kb ho hol eo => ?_
  · rcases q.top with t | t
    · exact PySem.W.Sortable.tuples fun b => t b.1
    · exact PySem.W.Sortable.others fun b => t b.1
  · have := q.dep b.1
    show X.A.units + 1 + 1 + _ < _
    omega
  · have lt : ∀ b o, s'.heap.get? b = some o → h3.get? b = some o := fun b o e => kb b o (fun z => by
      have := Heap.lt_size (k2 b o e)
      rw [z] at this
      exact Nat.lt_irrefl _ this) (Heap.get?_push_of_some _ (k2 b o e))
    exact lam_turn (s := s') (H := H1) hb I1 (RF.same sm) (r.mono (hidM_sm sm) a2) a1 a3 hf hco LO.bind LO.kind LO.co LO.gen LO.cell LO.px _ (by show X.A.depth < _; omega) h3 tk3 lt
  · refine wpAny_pure ⟨_, rfl, ?_⟩
    rw [srtk_eq] at eo
    obtain ⟨ys, g1, g2⟩ := eachIs_back (F := fun (b : κ × α) x => r.rp X.K (hidM m O F H) b.2 x ∧ fn E b.2 = .ok b.1) eo
    have lt : ∀ b o, s'.heap.get? b = some o → h3.get? b = some o := fun b o e => kb b o (fun z => by
      have := Heap.lt_size (k2 b o e)
      rw [z] at this
      exact Nat.lt_irrefl _ this) (Heap.get?_push_of_some _ (k2 b o e))
    have hnn : s'.heap.get? h2.objs.size = none := by
      cases e : s'.heap.get? h2.objs.size with
      | none => rfl
      | some o => exact absurd (Heap.lt_size (k2 _ _ e)) (Nat.lt_irrefl _)
    have hp2 : Paired (r.rp X.K (hidM m O F H)) (sortK q.lt xs ks) ys := by
      unfold sortK
      have : ∀ {bs : List (κ × α)} {ys : List V}, Paired (fun (b : κ × α) x => r.rp X.K (hidM m O F H) b.2 x ∧ fn E b.2 = .ok b.1) bs ys → Paired (r.rp X.K (hidM m O F H)) (bs.map (·.2)) ys := by
        intro bs ys h
        induction h with
        | nil => exact .nil
        | cons a _ ih => exact .cons a.1 ih
      exact this g2
    have hy : ys.length ≤ sizeLine := by
      have := g1.length
      omega
    obtain ⟨n1, I2⟩ := inv_new (t' := tk3) I1 lt hnn hy g1 ho
    exact ⟨.ref _, _, I2, rfl, post H1 _ ys sm n1 hp2⟩
/-! ### the rules -/
def keysR (f : α → Rs κ) : List α → Rs (List κ)
  | [] => .ok []
  | x :: xs => (f x).bind fun k => (keysR f xs).bind fun ks => .ok (k :: ks)
theorem keysR_ok {f : α → Rs κ} : ∀ {xs : List α} {ks : List κ}, keysR f xs = .ok ks → ks.length = xs.length ∧ ∀ (i : Nat) (x : α) (y : κ), xs[i]? = some x → ks[i]? = some y → f x = .ok y
  | [], ks, h => by
    cases h
    exact ⟨rfl, fun i x y hx => by simp at hx⟩
  | x :: xs, ks, h => by
    unfold keysR at h
    cases h1 : f x with
    | exc c => rw [h1] at h; cases h
    | bad => rw [h1] at h; cases h
    | ok k =>
      rw [h1] at h
      cases h2 : keysR f xs with
      | exc c => rw [h2] at h; cases h
      | bad => rw [h2] at h; cases h
      | ok ks2 =>
        rw [h2] at h
        cases h
        obtain ⟨a, b⟩ := keysR_ok h2
        refine ⟨by rw [List.length_cons, List.length_cons, a], fun i x2 y hx hy => ?_⟩
        cases i with
        | zero =>
          simp at hx hy
          rw [← hx, ← hy]
          exact h1
        | succ i => exact b i x2 y (by simpa using hx) (by simpa using hy)
def dSortK (lt : κ → κ → Bool) (fi : ε → Rs (List α)) (fn : ε → α → Rs κ) : ε → Rs (List α) := fun E => (fi E).bind fun xs => (nox (keysR (fn E) xs)).bind fun ks => .ok (sortK lt xs ks)
def tSK {rk : Rp κ} (D : EnvD ε) (K : PySem.W.Frag) (m : Md) (r : Rp α) (q : Sb rk) (fn : ε → α → Rs κ) (te : TE) : TE := fun σ H Q => te σ H fun v H1 => ∃ O F E xs ks, RelF D K H1 O F E σ ∧ (rList r).rp K (hidM m O F H1) xs v ∧ List.length ks = xs.length ∧ (∀ (i : Nat) (x : α) (y : κ), xs[i]? = some x → ks[i]? = some y → fn E x = .ok y) ∧
  ∀ H2 n ys, Same H1 H2 → H2 n = none → Paired (r.rp K (hidM m O F H1)) (sortK q.lt xs ks) ys → Q (.ref n) (upd H2 n (.lst ys))
theorem pe_sortedK {rk : Rp κ} {q : Sb rk} {fn : ε → α → Rs κ} {params : Arguments} {body : Expr} {lpos kpos p : Pos} {te : TE} {x id : Str} {k : Nat} (hb : RwK D X m r scope px body q fn) (LO : LamOk X scope px params body) (hr : Room k X.A) (hq8 : q.n ≤ 8) (he : PE X e te)
    (hg : Gl X x) (hm : X.mg x = none) (hv : bootBuiltins x = some (.builtin "sorted")) (hn : x ≠ "__name__") (hdb : (x == ("__debug__" : Str)) = false) (hid : id = Str.ofString "key")
    (hs : starEach (e :: []) X.env = (false, eval e X.env) :: starEach [] X.env)
    (he2 : backTo pos (starEach (e :: []) X.env) = (false, eval e X.env) :: backTo pos (starEach [] X.env)) (hpl : (backTo pos (starEach (e :: []) X.env)).any (·.1) = false) :
    PE X (.Call (.Name x p) [e] [⟨some id, .Lambda params body scope lpos, kpos⟩] pos) (tSK D X.K m r q fn te) := by
  subst hid
  refine ⟨fun pins s σ H Q I h => ?_⟩
  refine wpAny_Call_Name_kw (ld_blt I hg hm hv ?_ hn hdb)
  refine PyProof.Rows.callWith_kw ?_ he2 hpl rfl rfl
  rw [he2]
  show wpAny _ _ (spliced [(false, eval e X.env)]) _ _ s
  refine Calls.spliced_cons (thn (he.run pins s σ H _ I h) fun u s1 ⟨v, H1, I1, r1, q1⟩ => Calls.spliced_nil ?_)
  obtain ⟨O, F, E, xs, ks, RF, rp, hlen, hks, post⟩ := q1
  have rp0 := rp
  obtain ⟨l, vs0, rfl, hl, hz, hp⟩ := rp0
  cases r1
  show wpAny _ _ (evalAll [do let v ← eval (.Lambda params body scope lpos) X.env; standAt pos; pure v]) _ _ s1
  refine wpAny_evalAll_cons (wpAny_bind (thn (keyed_core (v0 := .ref l) hb LO hr hq8 I1 RF hlen hks hz (fun s2 H2 I2 sm _ Q2 E2 h2 => ?_) ⟨l, rfl⟩ post) fun f s2 hf => wpAny_bind (wpAny_standAt (wpAny_pure (wpAny_evalAll_nil hf)))))
  have rp2 := (rList r).mono (hidM_sm sm) rp
  obtain ⟨l2, vs, e2, hl2, _, hp2⟩ := rp2
  cases e2
  have evs : vs = vs0 := by
    have a1 := (hid_le.get _ _ hl2)
    have a2 := sm.get _ _ (hid_le.get _ _ hl)
    rw [a1] at a2
    cases a2
    rfl
  subst evs
  obtain ⟨its, rv, pl, hz2⟩ := I2.list (a := l) (xs := vs) (.inl (.inl (hid_le.get _ _ hl2)))
  refine collect_list pl.isList (h2 its vs _ s2.toks (fun b o z => ?_) rv hp) (by have := rv.length; omega)
  have hlt : b ≠ s2.heap.objs.size := Nat.ne_of_lt (Heap.lt_size z)
  rw [Heap.get?_update_ne _ _ _ _ hlt]
  exact Heap.get?_push_of_some _ z
theorem sortK_sem {R : Str → Hp → Prop} {rk : Rp κ} {q : Sb rk} {fn : ε → α → Rs κ} {te : TE} {f : ε → Rs (List α)} {K : PySem.W.Frag} (hsem : SemE D K R m te (rList r) f) {H : Hp} {O F : List Addr} {E : ε} {σ : L2.St} (I : RelF D K H O F E σ) {Q : VK} {W : List α → Prop}
    (k : Good (dSortK q.lt f fn E) W (fun c => ∀ H', Same H H' → R c H')) (hw : ∀ ys, W ys → ∀ H1 H2 n vs, Same H H1 → Same H1 H2 → H2 n = none → ys.length ≤ sizeLine → Paired (r.rp K (hidM m O F H1)) ys vs → Q (.ref n) (upd H2 n (.lst vs))) : tSK D K m r q fn te σ H Q := by
  refine hsem H O F E σ I _ ((good_bind k).mono (fun xs _ k v H1 e1 r1 => ?_) fun _ k => k)
  have k := good_bind (show Good ((nox (keysR (fn E) xs)).bind fun ks => .ok (sortK q.lt xs ks)) _ _ from k)
  cases ek : keysR (fn E) xs with
  | exc c => rw [ek] at k; exact k.elim
  | bad => rw [ek] at k; exact k.elim
  | ok ks =>
    rw [ek] at k
    obtain ⟨a, b⟩ := keysR_ok ek
    have hz : xs.length ≤ sizeLine := by
      obtain ⟨p, vs, _, _, hz, _⟩ := r1
      exact hz
    exact ⟨O, F, E, xs, ks, I.same e1, r1, a, b, fun H2 n ys sm hn hp => hw _ k H1 H2 n ys e1 sm hn (by rw [sortK_len a]; exact hz) hp⟩
section
variable {R : Str → Hp → Prop} {K : PySem.W.Frag} {rk : Rp κ} {q : Sb rk} {fn : ε → α → Rs κ} {params : Arguments} {body : Expr} {lpos kpos p : Pos} {te : TE} {x id : Str} {f : ε → Rs (List α)} {k : Nat}
theorem fe_sortedK (ha : FE D X K R m e te (rList r) f) (hb : RwK D X m r scope px body q fn) (LO : LamOk X scope px params body) (hr : Room k X.A) (hg : Gl X x) (hm : X.mg x = none) (hv : bootBuiltins x = some (.builtin "sorted")) (hq8 : q.n ≤ 8 := by first | decide | exact Nat.le_of_ble_eq_true rfl | exact Nat.lt_of_lt_of_le (Nat.lt_succ_self _) (Nat.le_of_ble_eq_true rfl)) (hn : x ≠ "__name__" := by decide) (hdb : (x == ("__debug__" : Str)) = false := by decide) (hid : id = Str.ofString "key" := by rfl)
    (hs : starEach (e :: []) X.env = (false, eval e X.env) :: starEach [] X.env := by rfl) (he2 : backTo pos (starEach (e :: []) X.env) = (false, eval e X.env) :: backTo pos (starEach [] X.env) := by rfl) (hpl : (backTo pos (starEach (e :: []) X.env)).any (·.1) = false := by rfl) :
    FE D X K R m (.Call (.Name x p) [e] [⟨some id, .Lambda params body scope lpos, kpos⟩] pos) (tSK D K m r q fn te) (rList r) (dSortK q.lt f fn) := by
  cases ha.hK
  exact ⟨rfl, pe_sortedK hb LO hr hq8 ha.pe hg hm hv hn hdb hid hs he2 hpl, fun H O F E σ I Q k => sortK_sem ha.sem I k fun ys k H1 H2 n vs e1 sm hn hl hp =>
    k _ _ ((e1.trans sm).trans (Fx.same_upd hn)) ⟨n, vs, rfl, hidM_new (Dom.same I.dom (e1.trans sm)) hn, hl, Paired.imp hp fun _ _ => r.mono (hidM_sm (sm.trans (Fx.same_upd hn)))⟩⟩
theorem fn_sortedK (ha : FE D X K R mS e te (rList r) f) (hb : RwK D X mS r scope px body q fn) (LO : LamOk X scope px params body) (hr : Room k X.A) (hg : Gl X x) (hm : X.mg x = none) (hv : bootBuiltins x = some (.builtin "sorted")) (hq8 : q.n ≤ 8 := by first | decide | exact Nat.le_of_ble_eq_true rfl | exact Nat.lt_of_lt_of_le (Nat.lt_succ_self _) (Nat.le_of_ble_eq_true rfl)) (hn : x ≠ "__name__" := by decide) (hdb : (x == ("__debug__" : Str)) = false := by decide) (hid : id = Str.ofString "key" := by rfl)
    (hs : starEach (e :: []) X.env = (false, eval e X.env) :: starEach [] X.env := by rfl) (he2 : backTo pos (starEach (e :: []) X.env) = (false, eval e X.env) :: backTo pos (starEach [] X.env) := by rfl) (hpl : (backTo pos (starEach (e :: []) X.env)).any (·.1) = false := by rfl) :
    FN D X K R (.Call (.Name x p) [e] [⟨some id, .Lambda params body scope lpos, kpos⟩] pos) (tSK D K mS r q fn te) (oList r) (dSortK q.lt f fn) := by
  cases ha.hK
  exact ⟨rfl, pe_sortedK hb LO hr hq8 ha.pe hg hm hv hn hdb hid hs he2 hpl, fun H O F E σ I Q k => sortK_sem ha.sem I k fun ys k H1 H2 n vs e1 sm hn hl hp => by
    have k : ∀ v H' F', Same H H' → _ := k
    have e12 := e1.trans sm
    have nl : NewL X.K r H2 O F ys (fun Q => Q (.ref n) (upd H2 n (.lst vs))) := fun Q k2 => k2 n _ vs (Fx.same_upd hn) hn upd_same hl (Paired.imp hp fun _ _ => r.mono (hidM_sm (m := mS) sm))
    exact nl.own (Dom.same I.dom e12) Q fun v H' F' e3 n2 nd d2 r2 => k v H' F' (e12.trans e3) (fun p hp => e12.free (n2 p hp)) nd d2 r2⟩
end
/-! ### sorted(range(..), key=..) -/
def tSKR {rk : Rp κ} (D : EnvD ε) (K : PySem.W.Frag) (q : Sb rk) (fn : ε → Int → Rs κ) (te : L2.St → Hp → (Int → Int → Hp → Prop) → Prop) : TE := fun σ H Q => te σ H fun a b H1 => RgOk a b ∧ ∃ O F E ks, RelF D K H1 O F E σ ∧ List.length ks = (rng a (b - a).toNat).length ∧ (∀ (i : Nat) (x : Int) (y : κ), (rng a (b - a).toNat)[i]? = some x → ks[i]? = some y → fn E x = .ok y) ∧
  ∀ H2 n, Same H1 H2 → H2 n = none → Q (.ref n) (upd H2 n (.lst ((sortK q.lt (rng a (b - a).toNat) ks).map V.int)))
theorem pe_sortedKR {rk : Rp κ} {q : Sb rk} {fn : ε → Int → Rs κ} {params : Arguments} {body : Expr} {lpos kpos p : Pos} {te : L2.St → Hp → (Int → Int → Hp → Prop) → Prop} {x id : Str} {k : Nat} (hc : X.calm = true) (hb : RwK D X m rInt scope px body q fn) (LO : LamOk X scope px params body) (hr : Room k X.A) (hq8 : q.n ≤ 8) (he : PRg X e te)
    (hg : Gl X x) (hm : X.mg x = none) (hv : bootBuiltins x = some (.builtin "sorted")) (hn : x ≠ "__name__") (hdb : (x == ("__debug__" : Str)) = false) (hid : id = Str.ofString "key")
    (he2 : backTo pos (starEach (e :: []) X.env) = (false, eval e X.env) :: backTo pos (starEach [] X.env)) (hpl : (backTo pos (starEach (e :: []) X.env)).any (·.1) = false) :
    PE X (.Call (.Name x p) [e] [⟨some id, .Lambda params body scope lpos, kpos⟩] pos) (tSKR D X.K q fn te) := by
  subst hid
  refine ⟨fun pins s σ H Q I h => ?_⟩
  refine wpAny_Call_Name_kw (ld_blt I hg hm hv ?_ hn hdb)
  refine PyProof.Rows.callWith_kw ?_ he2 hpl rfl rfl
  rw [he2]
  show wpAny _ _ (spliced [(false, eval e X.env)]) _ _ s
  refine Calls.spliced_cons (thn (he pins s σ H _ I h) fun u s1 ⟨l, a, b, t1, t2, t3, H1, eu, hrg, I1, q1⟩ => Calls.spliced_nil ?_)
  subst eu
  obtain ⟨⟨b1, b2, b3, b4, b5⟩, O, F, E, ks, RF, hlen, hks, post⟩ := q1
  show wpAny _ _ (evalAll [do let v ← eval (.Lambda params body scope lpos) X.env; standAt pos; pure v]) _ _ s1
  have hz : (rng a (b - a).toNat).length ≤ sizeLine := by rw [rng_len, sizeLine_eq]; omega
  refine wpAny_evalAll_cons (wpAny_bind (thn (keyed_core (v0 := .ref l) (xs := rng a (b - a).toNat) hb LO hr hq8 I1 RF hlen hks hz (fun s2 H2 I2 sm kc Q2 E2 h2 => ?_) ⟨l, rfl⟩ fun H2 n ys sm hn hp => ?_) fun f s2 hf => wpAny_bind (wpAny_standAt (wpAny_pure (wpAny_evalAll_nil hf)))))
  · have hrg2 : IsRange s2.heap l a b 1 t1 t2 t3 := kc _ _ hrg (fun z => nomatch z)
    refine collect_range (n := (b - a).toNat) (I2.ok.hd hc) hrg2 (small_one b1 b2 b3 b4) (rangeSize_nat a b) b5 fun h' tk acc hk hi => ?_
    refine h2 acc.toList ((rng a (b - a).toNat).map V.int) h' tk hk ?_ (paired_ints _)
    rw [← rgV_eq]
    exact vals_rg hi
  · have : ys = (sortK q.lt (rng a (b - a).toNat) ks).map V.int := by
      have : ∀ {xs : List Int} {vs : List V}, Paired (rInt.rp X.K (hidM m O F H1)) xs vs → vs = xs.map V.int := by
        intro xs vs h
        induction h with
        | nil => rfl
        | cons a _ ih => rw [List.map_cons, ← ih, show _ = V.int _ from a]
      exact this hp
    rw [this]
    exact post H2 n sm hn
def dSortKR (lt : κ → κ → Bool) (fi : ε → Rs (List Int)) (fn : ε → Int → Rs κ) : ε → Rs (List Int) := dSortK lt fi fn
theorem sortKR_run {R : Str → Hp → Prop} {rk : Rp κ} {q : Sb rk} {fn : ε → Int → Rs κ} {K : PySem.W.Frag} {H H1 : Hp} {O F : List Addr} {E : ε} {σ : L2.St} (I : RelF D K H1 O F E σ) (e1 : Same H H1) {Q : VK} {W : List Int → Prop} {i j : Int}
    (k : Good ((ofO (rngF i j)).bind fun xs => (nox (keysR (fn E) xs)).bind fun ks => .ok (sortK q.lt xs ks)) W (fun c => ∀ H', Same H H' → R c H')) (hw : ∀ ys, W ys → ∀ H2 n, Same H H2 → H2 n = none → ys.length ≤ sizeLine → Q (.ref n) (upd H2 n (.lst (ys.map V.int)))) :
    RgOk i j ∧ ∃ O F E ks, RelF D K H1 O F E σ ∧ List.length ks = (rng i (j - i).toNat).length ∧ (∀ (l : Nat) (x : Int) (y : κ), (rng i (j - i).toNat)[l]? = some x → ks[l]? = some y → fn E x = .ok y) ∧
      ∀ H2 n, Same H1 H2 → H2 n = none → Q (.ref n) (upd H2 n (.lst ((sortK q.lt (rng i (j - i).toNat) ks).map V.int))) := by
  have k := good_bind k
  unfold rngF at k
  by_cases c : rngOk i j
  · rw [cIf_pos c] at k
    have k := good_bind (show Good ((nox (keysR (fn E) (rng i (j - i).toNat))).bind fun ks => .ok (sortK q.lt (rng i (j - i).toNat) ks)) _ _ from k)
    cases ek : keysR (fn E) (rng i (j - i).toNat) with
    | exc c => rw [ek] at k; exact k.elim
    | bad => rw [ek] at k; exact k.elim
    | ok ks =>
      rw [ek] at k
      obtain ⟨a, b⟩ := keysR_ok ek
      have hz := c.2
      refine ⟨?_, O, F, E, ks, I, a, b, fun H2 n sm hn => hw _ k H2 n (e1.trans sm) hn (by rw [sortK_len a, rng_len]; exact hz)⟩
      rw [PySem.sizeLine_eq] at hz
      obtain ⟨⟨c1, c2, c3, c4⟩, _⟩ := c
      exact ⟨by omega, by omega, by omega, by omega, by omega⟩
  · rw [cIf_neg c] at k; exact k.elim
section
variable {R : Str → Hp → Prop} {K : PySem.W.Frag} {rk : Rp κ} {q : Sb rk} {fn : ε → Int → Rs κ} {params : Arguments} {body : Expr} {lpos kpos p p2 pq : Pos} {te : TE} {x id : Str} {f : ε → Rs Int} {k : Nat} {ma : Md}
theorem fe_sortedKR (hc : X.calm = true) (ha : FE D X K R ma a te rInt f) (hb : RwK D X m rInt scope px body q fn) (LO : LamOk X scope px params body) (hr : Room k X.A) (hg : Gl X x) (hm : X.mg x = none) (hv : bootBuiltins x = some (.builtin "sorted")) (hg2 : Gl X "range") (hm2 : X.mg "range" = none) (hq8 : q.n ≤ 8 := by first | decide | exact Nat.le_of_ble_eq_true rfl | exact Nat.lt_of_lt_of_le (Nat.lt_succ_self _) (Nat.le_of_ble_eq_true rfl)) (hn : x ≠ "__name__" := by decide) (hdb : (x == ("__debug__" : Str)) = false := by decide) (hid : id = Str.ofString "key" := by rfl)
    (na : starEach [a] X.env = (false, eval a X.env) :: starEach [] X.env := by rfl)
    (he2 : backTo pos (starEach [.Call (.Name "range" p2) [a] [] pq] X.env) = (false, eval (.Call (.Name "range" p2) [a] [] pq) X.env) :: backTo pos (starEach [] X.env) := by rfl) (hpl : (backTo pos (starEach [.Call (.Name "range" p2) [a] [] pq] X.env)).any (·.1) = false := by rfl) :
    FE D X K R m (.Call (.Name x p) [.Call (.Name "range" p2) [a] [] pq] [⟨some id, .Lambda params body scope lpos, kpos⟩] pos) (tSKR D K q fn (tRg1 te)) (rList rInt) (dSortKR q.lt (d1 (rngF 0) f) fn) := by
  cases ha.hK
  refine ⟨rfl, pe_sortedKR hc hb LO hr hq8 (prg_1 hg2 hm2 ha.pe na) hg hm hv hn hdb hid he2 hpl, fun H O F E σ I Q k => ?_⟩
  have k : Good (((f E).bind fun a => ofO (rngF 0 a)).bind fun xs => (nox (keysR (fn E) xs)).bind fun ks => .ok (sortK q.lt xs ks)) _ _ := k
  rw [Rs.bind_assoc] at k
  refine ha.sem H O F E σ I _ ((good_bind k).mono (fun j _ k v H1 e1 r1 => ⟨j, r1, sortKR_run (I.same e1) e1 k fun ys k H2 n e2 hn hl => ?_⟩) fun c k => k)
  exact k _ _ (e2.trans (Fx.same_upd hn)) ⟨n, _, rfl, hidM_new (Dom.same I.dom e2) hn, hl, paired_ints ys⟩
theorem fn_sortedKR (hc : X.calm = true) (ha : FE D X K R ma a te rInt f) (hb : RwK D X m rInt scope px body q fn) (LO : LamOk X scope px params body) (hr : Room k X.A) (hg : Gl X x) (hm : X.mg x = none) (hv : bootBuiltins x = some (.builtin "sorted")) (hg2 : Gl X "range") (hm2 : X.mg "range" = none) (hq8 : q.n ≤ 8 := by first | decide | exact Nat.le_of_ble_eq_true rfl | exact Nat.lt_of_lt_of_le (Nat.lt_succ_self _) (Nat.le_of_ble_eq_true rfl)) (hn : x ≠ "__name__" := by decide) (hdb : (x == ("__debug__" : Str)) = false := by decide) (hid : id = Str.ofString "key" := by rfl)
    (na : starEach [a] X.env = (false, eval a X.env) :: starEach [] X.env := by rfl)
    (he2 : backTo pos (starEach [.Call (.Name "range" p2) [a] [] pq] X.env) = (false, eval (.Call (.Name "range" p2) [a] [] pq) X.env) :: backTo pos (starEach [] X.env) := by rfl) (hpl : (backTo pos (starEach [.Call (.Name "range" p2) [a] [] pq] X.env)).any (·.1) = false := by rfl) :
    FN D X K R (.Call (.Name x p) [.Call (.Name "range" p2) [a] [] pq] [⟨some id, .Lambda params body scope lpos, kpos⟩] pos) (tSKR D K q fn (tRg1 te)) (oList rInt) (dSortKR q.lt (d1 (rngF 0) f) fn) := by
  cases ha.hK
  refine ⟨rfl, pe_sortedKR hc hb LO hr hq8 (prg_1 hg2 hm2 ha.pe na) hg hm hv hn hdb hid he2 hpl, fun H O F E σ I Q k => ?_⟩
  have k : Good (((f E).bind fun a => ofO (rngF 0 a)).bind fun xs => (nox (keysR (fn E) xs)).bind fun ks => .ok (sortK q.lt xs ks)) _ _ := k
  rw [Rs.bind_assoc] at k
  refine ha.sem H O F E σ I _ ((good_bind k).mono (fun j _ k v H1 e1 r1 => ⟨j, r1, sortKR_run (I.same e1) e1 k fun ys k H2 n e2 hn hl => ?_⟩) fun c k => k)
  exact own_list (Dom.same I.dom e2) e2 hn hl k
end
end
/-! ### short names -/
section
variable {ε α κ : Type}
def kC (i : Int) : ε → α → Rs Int := fun _ _ => .ok i
def kP : ε → Int → Rs Int := fun _ x => .ok x
def kIxP (fb : ε → List Int → Rs Int) : ε → List Int → Rs Int := fun E x => (fb E x).bind fun i => ofO (atP x i)
def kIxC (gt : ε → Option (List Int)) (fb : ε → α → Rs Int) : ε → α → Rs Int := fun E x => (ofO (gt E)).bind fun xs => (fb E x).bind fun i => ofO (atP xs i)
def kSub (fa fb : ε → α → Rs Int) : ε → α → Rs Int := fun E x => (fa E x).bind fun i => (fb E x).bind fun j => .ok (i - j)
def kPair (fa fb : ε → α → Rs Int) : ε → α → Rs (Int × Int × Unit) := fun E x => (fa E x).bind fun i => (fb E x).bind fun j => .ok (i, j, ())
end
section
variable {ε ρ π α : Type} {D : EnvD ε} {X : Cx} {i : Nat}
theorem rc_s {bb : Bool} {gt : ε → Option (List Int)} {p : ε → Option (List Int) → ε} (L : Ln D D i (sS bb (rList rInt)) (sS bb (rList rInt)) gt p) {K : PySem.W.Frag} {H : Hp} {O F : List Addr} {E : ε} {σ : L2.St} (I : RelF D K H O F E σ) (xs : List Int) (h : gt E = some xs) : ∃ v B, σ[i]? = some (some v) ∧ Wk B H ∧ (rList rInt).rp K B xs v := by
  obtain ⟨F1, w, _, h2, h3⟩ := L.at I
  obtain ⟨v, e1, e2⟩ := h3.2 xs h
  subst e1
  exact ⟨v, _, h2, hidM_low, e2⟩
theorem rc_o {gt : ε → Option (List Int)} {p : ε → Option (List Int) → ε} (L : OL D i rInt gt p) {K : PySem.W.Frag} {H : Hp} {O F : List Addr} {E : ε} {σ : L2.St} (I : RelF D K H O F E σ) (xs : List Int) (h : gt E = some xs) : ∃ v B, σ[i]? = some (some v) ∧ Wk B H ∧ (rList rInt).rp K B xs v := by
  obtain ⟨q, vs, y0, y1, y2, y3, y4, _⟩ := L.lst I h
  exact ⟨.ref q, H, y0, Wk.refl H, q, vs, rfl, y1, y2, Paired.imp y4 fun _ _ => rInt.mono hid_le⟩
/-- a def that makes a lambda -/
def TbOk (base : Heap) (mg : Str → Option Value) (fd : FuncData) (q : Str) : Prop := ∃ c P, LamX.TabB base mg c P ∧ fd.code = .ref c ∧ (P, q) ∈ Tbs.T ∧ ∀ p ∈ Tbs.T, p.1 = P → p.2 = q
variable {Pg : Program} {w : World} {K : PySem.W.Frag} {mg : Str → Option Value} {base : Heap}
theorem fn_okL {x qual : Str} {st : Stmt} {f : Addr} {fd : FuncData} {N ps : List Str} {k n : Nat} {P : PD π} {D : EnvD ε} {rr : RetD ρ} {e0 : π → ε} {bf : ε → Rs (Fl ε ρ)} (F : Fun K x qual st f fd) (S : FnScope N ps (defScope st)) (hst : StartR P D n e0)
    (hlen : ∀ K H H' a vs, P.rel K H H' a vs → vs.length = ps.length) (hn : N.length = ps.length + n)
    (hb : ∀ (cdv : Value) (A : Around) (outer : List Env) (s : Shared) (H : Hp) (E : XK), fd.code = cdv → Room k (A.deeper (PyProof.Rows.envOfC qual (defScope st) s.heap.objs.size f cdv)) →
      ∃ t, FSs D (cxOf CX0 Pg w K mg base N qual (defScope st) f cdv A outer s H E).nox K R0 rr (defBody st) t bf) :
    FnOk Pg w K mg base CX0 (k + 1) f fd ps (spM K x0 P rr fun a => runB bf (e0 a)) := by
  obtain ⟨oc, od, kV, doc, pm, an, cdv, ct, osl, rfl, lk, hcd⟩ := F.ex
  refine fn_of lk hcd S (fun vs H Q E h => ?_) fun A outer s H vs Q E hr h => ?_
  · obtain ⟨O, args, h1, _⟩ := h
    exact hlen _ _ _ _ _ h1
  · obtain ⟨O, args, h1, h2, hT, h3⟩ := h
    obtain ⟨t, ht⟩ := hb cdv A outer s H E rfl hr
    refine ⟨t, ht.ps.nox, ht.sem H O [] (e0 args) _ ?_ _ ((good_bind h3).mono (fun fl _ q => ?_) fun c q => ?_)⟩
    · have hl := hlen _ _ _ _ _ h1
      have e : L2.start N vs = vs.map some ++ List.replicate n none := by
        unfold L2.start
        rw [hn, hl, Nat.add_sub_cancel_left]
      rw [e]
      exact ⟨hst.run h1, List.nodup_nil, (fun p hp => nomatch hp), h2, hT⟩
    · cases fl with
      | nx E => exact q.elim
      | bk E => exact q.elim
      | ct E => exact q.elim
      | rt a =>
        have q : ∀ v H' F', Same H H' → (∀ p ∈ F', H p = none) → F'.Nodup → (∀ p ∈ F', ∃ u, H' p = some u) → rr.rel K H' O a v F' → Q v H' := q
        exact fun v H' F' k n nd d rl => q v H' F' (Step.of_nil (F' := []) ⟨k, fun p hp => nomatch hp⟩) (fun p hp => (n p hp).resolve_left (by simp)) nd d rl
    · exact (q _ (Same.refl H)).elim
end
end Fx

/-! Fx20: the end of a law whose defs make lambdas. -/
namespace Fx
open PySem PySem.Spec L2
theorem mu_of {T : List (Addr × Str)} (h : (T.map (·.1)).Nodup) {P : Addr} {q : Str} (hm : (P, q) ∈ T) : ∀ p ∈ T, p.1 = P → p.2 = q := by
  induction T with
  | nil => cases hm
  | cons a T ih =>
    rw [List.map_cons, List.nodup_cons] at h
    intro p hp e
    rcases List.mem_cons.mp hm with z | z
    · rcases List.mem_cons.mp hp with y | y
      · rw [y, ← z]
      · exact absurd (List.mem_map.mpr ⟨p, y, by rw [e, ← z]⟩) h.1
    · rcases List.mem_cons.mp hp with y | y
      · rw [← y, e] at h
        exact absurd (List.mem_map.mpr ⟨(P, q), z, rfl⟩) h.1
      · exact ih h.2 z p y e
theorem law_atS {l : PySem.W.OpenLaw} {w : World} {K : PySem.W.Frag} {mg : Str → Option Value} {fa : Addr} {h : Heap} {k : Nat} {x : Str} {mf : List Int × Unit → Rs Bool} (cs : List (Addr × Addr)) (TT : List (Addr × Str))
    (hl : ∀ ns : List Int, ns.length ≤ 63 → (∀ z ∈ ns, Builtin.Int.intBits z ≤ 1048576) → mf (ns, ()) = .ok true)
    (hT : ∀ p ∈ cs, h.get? p.2 = some { cls := .none, data := .fields #[] }) (nT : ∀ p ∈ cs, K.lookup p.2 = none) (hC : ∀ p ∈ cs, PySem.W.CodeHd h p.1 p.2) (sub : ∀ p ∈ TT, ∃ c, (c, p.1) ∈ cs)
    (all : ∃ fd : FuncData, (∀ (s : Shared) (v : Value), BindsTo s fd ⟨[v], []⟩ [(x, v)]) ∧ ∀ base : Heap, K.In base → base.Ns mainGlobals mg → (∀ p ∈ cs, LamX.TabB base mg p.1 p.2) → FnOk l.prog w K mg base CX0 k fa fd [x] (@spM (Tbs.mk TT) _ _ K x0 (pC true (rSeq rInt) pNil) (retS rBool) mf)) :
    LamX.LawAtS l w K CX0 k 63 x mg fa h := by
  letI : Tbs := ⟨TT⟩
  obtain ⟨fd, hb, hF⟩ := all
  refine ⟨fd, cs, _, hT, nT, hC, hb, fun H a ns hn hbits hH hS => law_end hn hS (hl ns hn hbits) fun p hp => ?_, hF⟩
  obtain ⟨c, hc⟩ := sub p hp
  exact LamX.TabS.nil (hH _ hc)
section
variable {l : PySem.W.OpenLaw} {w : World} {K : PySem.W.Frag} {mg : Str → Option Value} {fa : Addr} {h : Heap} {k : Nat} {x : Str} {mf : List Int × Unit → Rs Bool} {c0 P0 c1 P1 c2 P2 f0 f1 f2 : Addr} {oc0 oc1 oc2 pc0 pc1 pc2 : Value} {od0 od1 od2 pd0 pd1 pd2 : Option Addr} {fd0 fd1 fd2 : FuncData} {sl0 sl1 sl2 ps0 ps1 ps2 : Array (Option Value)} {vs0 vs1 vs2 : Array Value} {x0' x1' x2' : Str}
abbrev AllS (l : PySem.W.OpenLaw) (w : World) (K : PySem.W.Frag) (mg : Str → Option Value) (fa : Addr) (k : Nat) (x : Str) (mf : List Int × Unit → Rs Bool) (cs : List (Addr × Addr)) (TT : List (Addr × Str)) : Prop :=
  ∃ fd : FuncData, (∀ (s : Shared) (v : Value), BindsTo s fd ⟨[v], []⟩ [(x, v)]) ∧ ∀ base : Heap, K.In base → base.Ns mainGlobals mg → (∀ p ∈ cs, LamX.TabB base mg p.1 p.2) → FnOk l.prog w K mg base CX0 k fa fd [x] (@spM (Tbs.mk TT) _ _ K Fx.x0 (pC true (rSeq rInt) pNil) (retS rBool) mf)
theorem law_at1 (x0' q0 : Str) (hl : ∀ ns : List Int, ns.length ≤ 63 → (∀ z ∈ ns, Builtin.Int.intBits z ≤ 1048576) → mf (ns, ()) = .ok true) (ta0 : PySem.W.nsIn K mainGlobals x0' = some (some (.ref f0))) (tb0 : K.lookup f0 = some ⟨oc0, od0, .func fd0, sl0⟩) (tc0 : fd0.code = .ref c0) (td0 : K.lookup c0 = some ⟨pc0, pd0, .fields vs0, ps0⟩) (te0 : vs0[11]? = some (.ref P0))
    (hT : h.get? P0 = some { cls := .none, data := .fields #[] }) (nT : K.lookup P0 = none) (hC : PySem.W.CodeHd h c0 P0) (all : AllS l w K mg fa k x mf [(c0, P0)] [(P0, q0)]) : LamX.LawAtS l w K CX0 k 63 x mg fa h :=
  law_atS [(c0, P0)] [(P0, q0)] hl (List.forall_mem_cons.mpr ⟨hT, (fun _ h => nomatch h)⟩) (List.forall_mem_cons.mpr ⟨nT, (fun _ h => nomatch h)⟩) (List.forall_mem_cons.mpr ⟨hC, (fun _ h => nomatch h)⟩) (by simp) all
theorem law_at2 (x0' q0 x1' q1 : Str) (hl : ∀ ns : List Int, ns.length ≤ 63 → (∀ z ∈ ns, Builtin.Int.intBits z ≤ 1048576) → mf (ns, ()) = .ok true) (ta0 : PySem.W.nsIn K mainGlobals x0' = some (some (.ref f0))) (tb0 : K.lookup f0 = some ⟨oc0, od0, .func fd0, sl0⟩) (tc0 : fd0.code = .ref c0) (td0 : K.lookup c0 = some ⟨pc0, pd0, .fields vs0, ps0⟩) (te0 : vs0[11]? = some (.ref P0)) (ta1 : PySem.W.nsIn K mainGlobals x1' = some (some (.ref f1))) (tb1 : K.lookup f1 = some ⟨oc1, od1, .func fd1, sl1⟩) (tc1 : fd1.code = .ref c1) (td1 : K.lookup c1 = some ⟨pc1, pd1, .fields vs1, ps1⟩) (te1 : vs1[11]? = some (.ref P1))
    (hT : h.get? P0 = some { cls := .none, data := .fields #[] }) (nT : K.lookup P0 = none) (hC : PySem.W.CodeHd h c0 P0) (hT1 : h.get? P1 = some { cls := .none, data := .fields #[] }) (nT1 : K.lookup P1 = none) (hC1 : PySem.W.CodeHd h c1 P1)
    (all : AllS l w K mg fa k x mf [(c0, P0), (c1, P1)] [(P0, q0), (P1, q1)]) : LamX.LawAtS l w K CX0 k 63 x mg fa h :=
  law_atS [(c0, P0), (c1, P1)] [(P0, q0), (P1, q1)] hl (List.forall_mem_cons.mpr ⟨hT, (List.forall_mem_cons.mpr ⟨hT1, (fun _ h => nomatch h)⟩)⟩) (List.forall_mem_cons.mpr ⟨nT, (List.forall_mem_cons.mpr ⟨nT1, (fun _ h => nomatch h)⟩)⟩) (List.forall_mem_cons.mpr ⟨hC, (List.forall_mem_cons.mpr ⟨hC1, (fun _ h => nomatch h)⟩)⟩) (by
    intro p hp
    simp only [List.mem_cons, List.not_mem_nil, or_false] at hp
    rcases hp with rfl | rfl
    · exact ⟨c0, by simp⟩
    · exact ⟨c1, by simp⟩) all
theorem law_at3 (x0' q0 x1' q1 x2' q2 : Str) (hl : ∀ ns : List Int, ns.length ≤ 63 → (∀ z ∈ ns, Builtin.Int.intBits z ≤ 1048576) → mf (ns, ()) = .ok true) (ta0 : PySem.W.nsIn K mainGlobals x0' = some (some (.ref f0))) (tb0 : K.lookup f0 = some ⟨oc0, od0, .func fd0, sl0⟩) (tc0 : fd0.code = .ref c0) (td0 : K.lookup c0 = some ⟨pc0, pd0, .fields vs0, ps0⟩) (te0 : vs0[11]? = some (.ref P0)) (ta1 : PySem.W.nsIn K mainGlobals x1' = some (some (.ref f1))) (tb1 : K.lookup f1 = some ⟨oc1, od1, .func fd1, sl1⟩) (tc1 : fd1.code = .ref c1) (td1 : K.lookup c1 = some ⟨pc1, pd1, .fields vs1, ps1⟩) (te1 : vs1[11]? = some (.ref P1)) (ta2 : PySem.W.nsIn K mainGlobals x2' = some (some (.ref f2))) (tb2 : K.lookup f2 = some ⟨oc2, od2, .func fd2, sl2⟩) (tc2 : fd2.code = .ref c2) (td2 : K.lookup c2 = some ⟨pc2, pd2, .fields vs2, ps2⟩) (te2 : vs2[11]? = some (.ref P2))
    (hT : h.get? P0 = some { cls := .none, data := .fields #[] }) (nT : K.lookup P0 = none) (hC : PySem.W.CodeHd h c0 P0) (hT1 : h.get? P1 = some { cls := .none, data := .fields #[] }) (nT1 : K.lookup P1 = none) (hC1 : PySem.W.CodeHd h c1 P1) (hT2 : h.get? P2 = some { cls := .none, data := .fields #[] }) (nT2 : K.lookup P2 = none) (hC2 : PySem.W.CodeHd h c2 P2)
    (all : AllS l w K mg fa k x mf [(c0, P0), (c1, P1), (c2, P2)] [(P0, q0), (P1, q1), (P2, q2)]) : LamX.LawAtS l w K CX0 k 63 x mg fa h :=
  law_atS [(c0, P0), (c1, P1), (c2, P2)] [(P0, q0), (P1, q1), (P2, q2)] hl (List.forall_mem_cons.mpr ⟨hT, (List.forall_mem_cons.mpr ⟨hT1, (List.forall_mem_cons.mpr ⟨hT2, (fun _ h => nomatch h)⟩)⟩)⟩) (List.forall_mem_cons.mpr ⟨nT, (List.forall_mem_cons.mpr ⟨nT1, (List.forall_mem_cons.mpr ⟨nT2, (fun _ h => nomatch h)⟩)⟩)⟩) (List.forall_mem_cons.mpr ⟨hC, (List.forall_mem_cons.mpr ⟨hC1, (List.forall_mem_cons.mpr ⟨hC2, (fun _ h => nomatch h)⟩)⟩)⟩) (by
    intro p hp
    simp only [List.mem_cons, List.not_mem_nil, or_false] at hp
    rcases hp with rfl | rfl | rfl
    · exact ⟨c0, by simp⟩
    · exact ⟨c1, by simp⟩
    · exact ⟨c2, by simp⟩) all
variable [Tbs]
def freeB (sc scope : Scope) : Bool := scope.names.all fun y => !(y.2 == .free) || (sc.names.lookup y.1 == some .cell) || (sc.names.lookup y.1 == some .free)
def cellB (scope : Scope) : Bool := scope.names.all fun y => !(y.2 == .cell)
theorem lamOk_mk {X : Cx} {fd : FuncData} {scope : Scope} {px : Str} {params : Arguments} {body : Expr} {cdv : Value} {base : Heap} {mg : Str → Option Value} {q : Str} (tb : TbOk base mg fd q) (hcd : fd.code = cdv) (hb : X.base = base ∧ X.mg = mg ∧ X.env.code = cdv ∧ X.env.qual ++ "<lambda>" = q) (hdef : defaultsOf params X.env = ([], []))
    (bind : ∀ (qu : Str) (cl : List (Str × Addr)) (pm cv ctv w : Value), bindArgs (PySem.W.kla_fn "<lambda>" qu params body scope cl pm cv ctv) ⟨[w], []⟩ = pure [(px, w)]) (kind : scope.kind = .function) (co : scope.isCoroutine = false) (gen : scope.isGenerator = false)
    (cell : cellB scope = true) (hpx : scope.names.lookup px = some .local) (free : freeB X.env.scope scope = true) : LamOk X scope px params body := by
  obtain ⟨rfl, rfl, h3, rfl⟩ := hb
  obtain ⟨c, P, h1, h2, h4, h5⟩ := tb
  refine ⟨⟨c, P, h1, by rw [h3, ← hcd, h2], h4, h5⟩, hdef, bind, kind, co, gen, fun y hy z => ?_, hpx, fun y hy z => ?_⟩
  · unfold cellB at cell
    have := List.all_eq_true.mp cell y hy
    rw [z] at this
    cases this
  · unfold freeB at free
    have := List.all_eq_true.mp free y hy
    rw [z] at this
    simpa using this
variable {ε α : Type} {D : EnvD ε} {X : Cx} {R : Str → Hp → Prop} {m : Md} {r : Rp α} {e : Expr} {ta : TE} {pos : Pos}
/-- list(x), the items bare values -/
theorem fn_list1s {x : Str} {p : Pos} {f : ε → Rs (List α)} (sc : r.Sc) (hg : Gl X x) (hm : X.mg x = none) (hv : bootBuiltins x = some (.type "list")) (ha : FE D X K R m e ta (rList r) f) (hn : x ≠ "__name__" := by decide) (hdb : (x == ("__debug__" : Str)) = false := by decide)
    (he : starEach (e :: []) X.env = (false, eval e X.env) :: starEach [] X.env := by rfl) (hpl : (backTo pos (starEach [] X.env)).any (·.1) = false := by rfl) : FN D X K R (.Call (.Name x p) [e] [] pos) (tCB (qListOf K) (tCons ta tNil)) (oList r) (d1 some f) := by
  cases ha.hK
  exact ⟨rfl, pe_callTy call_list_of hg hm hv (pa_cons ha.pe pa_nil he) hn hdb he hpl, fun H O F E σ I Q k => ha.sem H O F E σ I _ ((good_bind k).mono (fun xs ex k v H1 e1 r1 => by
    have k : ∀ v H' F', Same H H' → _ := k
    have nl : NewL X.K r H1 O F xs (fun Q => qListOf X.K [v] H1 Q) := fun Q q => by
      obtain ⟨p, vs, rfl, hp, hl, hv⟩ := r1
      exact ⟨p, vs, rfl, .inl (.inl (.inl (hid_le.get _ _ hp))), fun n hn => q n _ vs (Fx.same_upd hn) hn upd_same hl (Paired.imp hv fun _ _ => sc _ _ _ _ _)⟩
    exact nl.own (Dom.same I.dom e1) Q fun v H' F' e2 n2 nd d2 r2 => k v H' F' (e1.trans e2) (fun p hp => e1.free (n2 p hp)) nd d2 r2) fun c k => k)⟩
end
end Fx

/-! Fx21: for x in a list of owned lists: x is changed. -/
namespace Fx
open PySem PySem.Spec L2
variable [Tbs]
/-- a statement that changes the list that stands in the j-th slot, and nothing else -/
structure RowOp {α : Type} (X : Cx) (K : PySem.W.Frag) (j : Nat) (st : Stmt) (t : TS) (r : Rp α) (f : List α → Option (List α)) : Prop where
  hK : X.K = K
  ps : PS X st t
  run : ∀ (H Hs : Hp) (σ : L2.St) (q : Addr) (vs : List V) (Dn : Ends) (xs ys : List α), σ[j]? = some (some (.ref q)) → H q = some (.lst vs) → xs.length ≤ sizeLine → Paired (r.rp K Hs) xs vs → f xs = some ys →
    (∀ ws, Paired (r.rp K Hs) ys ws → ys.length ≤ sizeLine → Dn.nx σ (upd H q (.lst ws))) → t Dn σ H
def mapO {α β : Type} (f : α → Option β) : List α → Option (List β)
  | [] => some []
  | x :: xs => (f x).bind fun y => (mapO f xs).bind fun ys => some (y :: ys)
theorem mapO_ok {α β : Type} {f : α → Option β} : ∀ {xs : List α} {ys : List β}, mapO f xs = some ys → ys.length = xs.length ∧ ∀ (i : Nat) (x : α), xs[i]? = some x → ∃ y, ys[i]? = some y ∧ f x = some y
  | [], ys, h => by
    cases h
    exact ⟨rfl, fun i x hx => by simp at hx⟩
  | x :: xs, ys, h => by
    unfold mapO at h
    cases h1 : f x with
    | none => rw [h1] at h; cases h
    | some y =>
      rw [h1] at h
      cases h2 : mapO f xs with
      | none => rw [h2] at h; cases h
      | some ys2 =>
        rw [h2] at h
        cases h
        obtain ⟨a, b⟩ := mapO_ok h2
        refine ⟨by rw [List.length_cons, List.length_cons, a], fun i x2 hx => ?_⟩
        cases i with
        | zero =>
          have e : x = x2 := by simpa using hx
          subst e
          exact ⟨y, rfl, h1⟩
        | succ i => simpa using b i x2 (by simpa using hx)
section
variable {ε ρ α : Type} {D : EnvD ε} {X : Cx} {K : PySem.W.Frag} {R : Str → Hp → Prop} {rr : RetD ρ} {r : Rp α} {pos : Pos} {i j : Nat} {y : Str}
def dForRow (gt : ε → Option (List (List α))) (p : ε → Option (List (List α)) → ε) (px : ε → Option (List α) → ε) (f : List α → Option (List α)) : ε → Rs (Fl ε ρ) := fun E => (ofO (gt E)).bind fun xss => (ofO (mapO f xss)).bind fun yss => .ok (.nx (px (p E (some yss)) none))
theorem take_set_drop {β : Type} {xs ys : List β} {k : Nat} (hl : ys.length = xs.length) (hk : k < xs.length) : (ys.take k ++ xs.drop k).set k (ys[k]'(by omega)) = ys.take (k + 1) ++ xs.drop (k + 1) := by
  rw [List.drop_eq_getElem_cons hk, List.take_add_one, List.getElem?_eq_getElem (by omega), Option.toList_some, List.append_assoc, List.singleton_append]
  rw [List.set_append_right _ _ (by rw [List.length_take]; omega)]
  have : k - (ys.take k).length = 0 := by rw [List.length_take]; omega
  rw [this, List.set_cons_zero]
theorem fs_forRow {x : Str} {pt pl : Pos} {st : Stmt} {tb : TS} {gt : ε → Option (List (List α))} {p : ε → Option (List (List α)) → ε} {gx : ε → Option (List α)} {px : ε → Option (List α) → ε} {f : List α → Option (List α)} (hp : PassesOwn (model X.prog X.w) X.A X.env X.xe) (hc : X.calm = true)
    (L : Ln D D i (sO (oList2 r)) (sO (oList2 r)) gt p) (Lx : Ln D D j (sS true (rList r)) (sS true (rList r)) gx px) (op : RowOp X K j st tb r f) (hN : X.N.Nodup)
    (e1 : ∀ E x, gt (p E x) = x := by intro _ _; rfl) (e2 : ∀ E x, gt (px E x) = gt E := by intro _ _; rfl) (e3 : ∀ E x z w, px (p (px (p E x) w) z) w = px (p E z) w := by intro _ _ _ _; rfl) (e4 : ∀ E x z, px (px E x) z = px E z := by intro _ _ _; rfl) (e0 : ∀ E, p E (gt E) = E := by intro _; rfl) (hij : i ≠ j := by decide)
    (hi : X.N[j]? = some x := by rfl) (hx : Loc X.env.scope x := by first | exact .inl rfl | exact .inr rfl) (hf : X.fn x = true ∨ X.env.scope.names.lookup x = some .local := by first | exact .inl rfl | exact .inr rfl)
    (hNy : X.N[i]? = some y := by rfl) (hv : Vis X.env.scope y := by first | exact Or.inl rfl | exact Or.inr (Or.inl rfl) | exact Or.inr (Or.inr rfl)) (hd : (y == ("__debug__" : Str)) = false := by decide) (hcd : (y == ("__classdict__" : Str)) = false := by decide) :
    FS D X K R rr (.For (.Name x pt) (.Name y pl) [st] [] pos) (tFor (iList K (tVar i)) (gName j) tb) (dForRow (ρ := ρ) gt p px f) := by
  cases op.hK
  refine ⟨rfl, ps_for hp hc (pi_list (pe_var hNy hv hd hcd)) (pg_name hN hi hx hf) (pss_one op.ps) (fun _ => rfl), fun H O F E σ I Dn k => ?_⟩
  have k := good_bind k
  cases eg : gt E with
  | none => rw [eg] at k; exact k.elim
  | some xss =>
    rw [eg] at k
    have k := good_bind (show Good ((ofO (mapO f xss)).bind _) _ _ from k)
    cases em : mapO f xss with
    | none => rw [em] at k; exact k.elim
    | some yss =>
      rw [em] at k
      obtain ⟨hlen, hmap⟩ := mapO_ok em
      obtain ⟨a0, qs, z0, z1, z2, z3, z4, z5, z6, _⟩ := l2_at L I eg
      have hq0 := Paired.len z6
      refine ⟨.ref a0, z0, a0, rfl, ⟨_, .inl (.inl z1)⟩, ?_⟩
      have I0 : RelF D X.K H O F (px (p E (some xss)) none) (σ.set j none) := by
        have h0 := I.put Lx sh_s (w := none) (x := none) (sS true (rList r)).non
        have : px E none = px (p E (some xss)) none := by rw [← eg, e0]
        rw [← this]; exact h0
      refine ⟨fun n mm σ2 H2 => mm = xss.length - n ∧ n ≤ xss.length ∧ σ2[i]? = some (some (.ref a0)) ∧ H2 a0 = some (.lst (qs.map V.ref)) ∧ Step F H F H2 ∧ RelF D X.K H2 O F (px (p E (some (yss.take n ++ xss.drop n))) none) (σ2.set j none),
        ⟨xss.length, by simp, Nat.zero_le _, z0, z1, Step.refl, by rw [List.take_zero, List.drop_zero, List.nil_append]; exact I0⟩, ?_⟩
      rintro n mm σ2 H2 ⟨rfl, hn, s0, h0, st0, I2⟩
      have hsq : SqL X.K H2 a0 (qs.map V.ref) := .inl (.inl h0)
      by_cases hlt : n < xss.length
      · have hqn : (qs.map V.ref)[n]? = some (.ref qs[n]) := by rw [List.getElem?_map, List.getElem?_eq_getElem (by omega)]; rfl
        refine .inr ⟨⟨_, _, hsq, hqn⟩, fun σ3 H3 => n + 1 ≤ xss.length ∧ σ3[i]? = some (some (.ref a0)) ∧ H3 a0 = some (.lst (qs.map V.ref)) ∧ Step F H F H3 ∧ RelF D X.K H3 O F (px (p E (some (yss.take (n + 1) ++ xss.drop (n + 1)))) none) (σ3.set j none), fun σ3 H3 h3 => ⟨xss.length - (n + 1), by omega, rfl, h3⟩, fun v H3 yl => ?_⟩
        obtain ⟨rfl, yl2⟩ := yl
        have ev := (yl2 _ hsq).symm.trans hqn
        cases ev
        have eg2 : gt (px (p E (some (yss.take n ++ xss.drop n))) none) = some (yss.take n ++ xss.drop n) := by rw [e2, e1]
        obtain ⟨a1, qs1, y0, y1, y2, y3, y4, y5, y6, y7, _⟩ := l2_at L I2 eg2
        have hs2 : (σ2.set j none)[i]? = σ2[i]? := List.getElem?_set_ne (fun z => hij z.symm)
        rw [hs2, s0] at y0
        cases y0
        have eqs : qs1 = qs := by
          have h := HO.lst.inj (Option.some.inj (y1.symm.trans h0))
          exact (List.map_inj_right (fun _ _ h => V.ref.inj h)).mp h
        subst eqs
        have hxn : (yss.take n ++ xss.drop n)[n]? = some xss[n] := by
          rw [List.getElem?_append_right (by rw [List.length_take]; omega), List.length_take, show n - min n yss.length = 0 by omega, List.getElem?_drop, Nat.add_zero, List.getElem?_eq_getElem hlt]
        obtain ⟨q1, g1, vs, g2, g3, g4⟩ := Paired.get y6 hxn
        have eq1 : q1 = qs1[n] := by
          rw [List.getElem?_eq_getElem (by omega)] at g1
          exact (Option.some.inj g1).symm
        subst eq1
        obtain ⟨y, hy1, hy2⟩ := hmap n xss[n] (List.getElem?_eq_getElem hlt)
        have hjl : j < σ2.length := by
          have hl : (σ2.set j none).length = σ2.length := List.length_set
          obtain ⟨F1, w, _, hw, _⟩ := Lx.at I2
          rcases Nat.lt_or_ge j (σ2.set j none).length with z | z
          · omega
          · rw [List.getElem?_eq_none z] at hw; cases hw
        refine op.run H3 (hid (O ++ F) H3) (σ2.set j (some (.ref qs1[n]))) qs1[n] vs _ xss[n] y (List.getElem?_set_self hjl) g2 g3 g4 hy2 fun ws hws hyl => ?_
        obtain ⟨st3, I3⟩ := y7 n qs1[n] y ws (List.getElem?_eq_getElem (by omega)) hyl hws
        have hne : a0 ≠ qs1[n] := fun z => (List.nodup_cons.mp y5).1 (z ▸ List.getElem_mem _)
        refine ⟨hlt, by rw [List.getElem?_set_ne (fun z => hij z.symm)]; exact s0, by rw [upd_ne hne]; exact h0, st0.trans st3, ?_⟩
        rw [List.set_set]
        have e5 : y = yss[n]'(by omega) := by
          rw [List.getElem?_eq_getElem (by omega)] at hy1
          exact (Option.some.inj hy1).symm
        have I4 := I3.put Lx sh_s (w := none) (x := none) (sS true (rList r)).non
        rw [List.set_set, e3, e5, take_set_drop hlen hlt] at I4
        exact I4
      · have en : n = xss.length := by omega
        subst en
        rw [List.drop_length, List.append_nil, ← hlen, List.take_length] at I2
        refine .inl ⟨⟨_, hsq, by rw [List.length_map]; omega⟩, ?_⟩
        refine (show FlPost D X.K rr O F H Dn (.nx (px (p E (some yss)) none)) from k) σ2 H2 F st0 ?_
        have hjl : j < σ2.length := by
          have hl : (σ2.set j none).length = σ2.length := List.length_set
          obtain ⟨F1, w, _, hw, _⟩ := Lx.at I2
          rcases Nat.lt_or_ge j (σ2.set j none).length with z | z
          · omega
          · rw [List.getElem?_eq_none z] at hw; cases hw
        have I5 := I2.put Lx sh_s (w := σ2[j]) (x := none) (sS true (rList r)).non
        rw [e4, List.set_set, set_self (List.getElem?_eq_getElem hjl)] at I5
        exact I5
/-! ### the changes -/
section
variable {px p1 p2 pos' apos cpos apos2 cpos2 : Pos} {x : Str} {i0 i1 : Int} {k0 k1 : Nat}
theorem ro_clear (hi : X.N[j]? = some x := by rfl) (hv : Vis X.env.scope x := by first | exact Or.inl rfl | exact Or.inr (Or.inl rfl) | exact Or.inr (Or.inr rfl)) (hd : (x == ("__debug__" : Str)) = false := by decide) (hcd : (x == ("__classdict__" : Str)) = false := by decide)
    (hbase : attributeBase (.Name x px) "clear" X.env (eval (.Name x px) X.env) = eval (.Name x px) X.env := by rfl) (hline : (apos.endLine == cpos.line) = true := by rfl)
    (hsw : swapsWith (.Call (.Attribute (.Name x px) "clear" apos) [] [] cpos) none pos.line X.env = pure false := by rfl) (hK : X.K = K := by rfl) :
    RowOp X K j (.Expr (.Call (.Attribute (.Name x px) "clear" apos) [] [] cpos) pos) (tDrop (tBM0 K "list" rClear (tVar j))) r (fun _ => some []) := by
  cases hK
  refine ⟨rfl, ps_expr (pe_bm0 PySem.F.plainAttrs_list PySem.F.slot_list_clear PySem.F.type_list_clear mt_clear (pe_var hi hv hd hcd) hbase hline) hsw, fun H Hs σ q vs Dn xs ys h1 h2 hl hp hf k => ?_⟩
  cases hf
  exact ⟨.ref q, h1, .inl ⟨rfl, _, .inl (.inl h2)⟩, q, vs, rfl, rfl, h2, k [] .nil (Nat.zero_le _)⟩
theorem ro_append {j0 : Nat} {c : Int} {r : Rp Int} (hr : r = rInt := by rfl) (hi : X.N[j]? = some x := by rfl) (hv : Vis X.env.scope x := by first | exact Or.inl rfl | exact Or.inr (Or.inl rfl) | exact Or.inr (Or.inr rfl)) (hd : (x == ("__debug__" : Str)) = false := by decide) (hcd : (x == ("__classdict__" : Str)) = false := by decide)
    (hbase : attributeBase (.Name x px) "append" X.env (eval (.Name x px) X.env) = eval (.Name x px) X.env := by rfl)
    (hfew : ((backTo cpos (starEach (.Constant (.int c) j0 p1 :: []) X.env)).all (fun x => !x.1) && (backToKw cpos (keywordEach [] X.env)).all (fun x => x.1.isSome)
      && decide (([.Constant (.int c) j0 p1] : List Expr).length + ([] : List Keyword).length + (if ([] : List Keyword).isEmpty then 0 else 1) < 30)) = true := by rfl)
    (hline : (apos.endLine == cpos.line) = true := by rfl) (hs : starEach (.Constant (.int c) j0 p1 :: []) X.env = (false, eval (.Constant (.int c) j0 p1) X.env) :: starEach [] X.env := by rfl) (hplain : (backTo cpos (starEach [] X.env)).any (·.1) = false := by rfl)
    (hsw : swapsWith (.Call (.Attribute (.Name x px) "append" apos) [.Constant (.int c) j0 p1] [] cpos) none pos.line X.env = pure false := by rfl) (hK : X.K = K := by rfl) :
    RowOp X K j (.Expr (.Call (.Attribute (.Name x px) "append" apos) [.Constant (.int c) j0 p1] [] cpos) pos) (tDrop (tBM K "list" rAppend (tVar j) (tCons (tC (.int c)) tNil))) r (fun xs => if xs.length < 1000000 then some (xs ++ [c]) else none) := by
  cases hK
  subst hr
  refine ⟨rfl, ps_expr (pe_bm PySem.F.plainAttrs_list PySem.F.slot_list_append PySem.F.type_list_append mt_append (pe_var hi hv hd hcd) (pa_cons pe_int pa_nil hs) hbase hfew hline hs hplain) hsw, fun H Hs σ q vs Dn xs ys h1 h2 hl hp hf k => ?_⟩
  split at hf
  · rename_i hlt
    cases hf
    have h3 := Paired.len hp
    have h4 : (1000000 : Nat) ≤ sizeLine := by decide
    exact ⟨.ref q, h1, .inl ⟨rfl, _, .inl (.inl h2)⟩, q, vs, _, rfl, rfl, h2, by omega, k _ (Paired.app hp (.cons rfl .nil)) (by rw [List.length_append]; simp; omega)⟩
  · cases hf
theorem paired_erase {β γ : Type} {F : β → γ → Prop} : ∀ {xs : List β} {ys : List γ}, Paired F xs ys → Paired F xs.tail ys.tail
  | _, _, .nil => .nil
  | _, _, .cons _ t => t
/-- x.append(x.pop(0)) -/
def rotF {α : Type} : List α → Option (List α)
  | [] => none
  | a :: xs => some (xs ++ [a])
theorem ro_turn {j0 : Nat} (hi : X.N[j]? = some x := by rfl) (hv : Vis X.env.scope x := by first | exact Or.inl rfl | exact Or.inr (Or.inl rfl) | exact Or.inr (Or.inr rfl)) (hd : (x == ("__debug__" : Str)) = false := by decide) (hcd : (x == ("__classdict__" : Str)) = false := by decide)
    (hbase : attributeBase (.Name x px) "append" X.env (eval (.Name x px) X.env) = eval (.Name x px) X.env := by rfl)
    (hfew : ((backTo cpos (starEach ((.Call (.Attribute (.Name x p2) "pop" apos2) [.Constant (.int 0) j0 p1] [] cpos2) :: []) X.env)).all (fun x => !x.1) && (backToKw cpos (keywordEach [] X.env)).all (fun x => x.1.isSome)
      && decide (([.Call (.Attribute (.Name x p2) "pop" apos2) [.Constant (.int 0) j0 p1] [] cpos2] : List Expr).length + ([] : List Keyword).length + (if ([] : List Keyword).isEmpty then 0 else 1) < 30)) = true := by rfl)
    (hline : (apos.endLine == cpos.line) = true := by rfl) (hs : starEach ((.Call (.Attribute (.Name x p2) "pop" apos2) [.Constant (.int 0) j0 p1] [] cpos2) :: []) X.env = (false, eval (.Call (.Attribute (.Name x p2) "pop" apos2) [.Constant (.int 0) j0 p1] [] cpos2) X.env) :: starEach [] X.env := by rfl) (hplain : (backTo cpos (starEach [] X.env)).any (·.1) = false := by rfl)
    (hbase2 : attributeBase (.Name x p2) "pop" X.env (eval (.Name x p2) X.env) = eval (.Name x p2) X.env := by rfl)
    (hfew2 : ((backTo cpos2 (starEach (.Constant (.int 0) j0 p1 :: []) X.env)).all (fun x => !x.1) && (backToKw cpos2 (keywordEach [] X.env)).all (fun x => x.1.isSome)
      && decide (([.Constant (.int 0) j0 p1] : List Expr).length + ([] : List Keyword).length + (if ([] : List Keyword).isEmpty then 0 else 1) < 30)) = true := by rfl)
    (hline2 : (apos2.endLine == cpos2.line) = true := by rfl) (hs2 : starEach (.Constant (.int 0) j0 p1 :: []) X.env = (false, eval (.Constant (.int 0) j0 p1) X.env) :: starEach [] X.env := by rfl) (hplain2 : (backTo cpos2 (starEach [] X.env)).any (·.1) = false := by rfl)
    (hsw : swapsWith (.Call (.Attribute (.Name x px) "append" apos) [.Call (.Attribute (.Name x p2) "pop" apos2) [.Constant (.int 0) j0 p1] [] cpos2] [] cpos) none pos.line X.env = pure false := by rfl) (hK : X.K = K := by rfl) :
    RowOp X K j (.Expr (.Call (.Attribute (.Name x px) "append" apos) [.Call (.Attribute (.Name x p2) "pop" apos2) [.Constant (.int 0) j0 p1] [] cpos2] [] cpos) pos) (tDrop (tBM K "list" rAppend (tVar j) (tCons (tBM K "list" rPopAt (tVar j) (tCons (tC (.int 0)) tNil)) tNil))) r rotF := by
  cases hK
  refine ⟨rfl, ps_expr (pe_bm PySem.F.plainAttrs_list PySem.F.slot_list_append PySem.F.type_list_append mt_append (pe_var hi hv hd hcd) (pa_cons (pe_bm PySem.F.plainAttrs_list PySem.F.slot_list_pop PySem.F.type_list_pop mt_popAt (pe_var hi hv hd hcd) (pa_cons pe_int pa_nil hs2) hbase2 hfew2 hline2 hs2 hplain2) pa_nil hs) hbase hfew hline hs hplain) hsw, fun H Hs σ q vs Dn xs ys h1 h2 hl hp hf k => ?_⟩
  cases hp with
  | nil => cases hf
  | @cons a v xs vs hr ht =>
    cases hf
    have h3 := Paired.len ht
    rw [List.length_cons] at hl
    refine ⟨.ref q, h1, .inl ⟨rfl, _, .inl (.inl h2)⟩, .ref q, h1, .inl ⟨rfl, _, .inl (.inl h2)⟩, q, v :: vs, 0, 0, v, rfl, rfl, h2, by decide, by decide, ?_, rfl, ?_⟩
    · simp [seqIndex?]
    · refine ⟨q, vs, v, rfl, rfl, by rw [List.eraseIdx_cons_zero]; exact upd_same, by omega, ?_⟩
      rw [upd_upd]
      exact k _ (Paired.app ht (.cons hr .nil)) (by rw [List.length_append]; simp; omega)
end
end
end Fx

/-! Fx22: bare values as targets, in any mode. -/
namespace Fx
open PySem PySem.Spec L2
theorem no_tabs {B : FuncData → Prop} {A C : Heap → Prop} {T : Heap → Addr × Addr → Prop} {G : FuncData → Heap → Prop} (h : ∃ fd, B fd ∧ ∀ base, A base → C base → (∀ p ∈ ([] : List (Addr × Addr)), T base p) → G fd base) : ∃ fd, B fd ∧ ∀ base, A base → C base → G fd base := by
  obtain ⟨fd, h1, h2⟩ := h
  exact ⟨fd, h1, fun base a c => h2 base a c fun _ z => nomatch z⟩
variable [Tbs]
section
variable {ε ε' α β : Type} {D : EnvD ε} {D' : EnvD ε'} {X : Cx} {K : PySem.W.Frag} {m : Md} {r : Rp α} {pos : Pos}
theorem fg_nameS {s : Slot β} {bb : Bool} {i : Nat} {g : ε → Option β} {p : ε → Option α → ε'} {x : Str} (sc : r.Sc) (L : Ln D D' i s (sS bb r) g p) (hs : s.Sh) (hN : X.N.Nodup) (hi : X.N[i]? = some x := by rfl) (hx : Loc X.env.scope x := by first | exact .inl rfl | exact .inr rfl)
    (hf : X.fn x = true ∨ X.env.scope.names.lookup x = some .local := by first | exact .inl rfl | exact .inr rfl) (hK : X.K = K := by rfl) : FG D D' X K r m (.Name x pos) (gName i) (stN p) [i] := by
  cases hK
  exact ⟨rfl, pg_name hN hi hx hf, fun H O F E E' σ a v I ra e Q q => by
    cases e
    refine q _ (I.put L hs ⟨rfl, fun a' ha => ⟨v, rfl, by cases ha; exact sc _ _ _ _ _ ra⟩⟩) (fun j hj => ?_) (by rw [List.length_set])
    exact List.getElem?_set_ne (fun z => hj (by simp [z]))⟩
theorem fe_fz1 {R : Str → Hp → Prop} {e : Expr} {te : TE} {f : ε → Rs (List α)} (h : FN D X K R e te (oList r) f) : FE D X K R mS e te (rList r) f := fe_fz h
theorem fe_fz2 {R : Str → Hp → Prop} {e : Expr} {te : TE} {f : ε → Rs (List (List α))} (h : FN D X K R e te (oList2 r) f) : FE D X K R mS e te (rList (rList r)) f := fe_fz h
end
end Fx

/-! Fx23: sorted(.., reverse=True), min and max of data. -/
namespace Fx
open PySem PySem.Spec L2
variable [Tbs]
section
variable {ε α β π : Type} {D : EnvD ε} {X : Cx} {K : PySem.W.Frag} {R : Str → Hp → Prop} {m : Md} {r : Rp α} {e : Expr} {te : TE} {pos : Pos} {P : PD π}
/-! ### falling -/
def rSortedRD (K : PySem.W.Frag) {β : Type} (enc : β → PyData) : List V → List V → Hp → VK → Prop := fun vs zs H Q => ∃ (a : Addr) (xs : List V) (bs : List β), vs = [V.ref a] ∧ zs = [V.bl true] ∧ SqL K H a xs ∧ Paired (fun b x => Dp K H x (enc b)) bs xs ∧ bs.length ≤ sizeLine ∧ (∀ x y, PySem.W.alike (enc x) (enc y) = true) ∧ PySem.W.Sortable (bs.map enc) ∧ (∀ b, (enc b).depth ≤ 8) ∧
  ∀ (ys : List V) (p : Addr), Paired (fun b y => (b, y) ∈ bs.zip xs) (bs.mergeSort (PySem.W.dataLe true enc)) ys → H p = none → Q (.ref p) (upd H p (.lst ys))
theorem cr_sortedRD {β : Type} {enc : β → PyData} (hu : X.A.units + 65 < cLine) : CallRK X (.builtin "sorted") [Str.ofString "reverse"] (rSortedRD X.K enc) := by
  intro pins s σ H vs zs us ws Q I r rz h
  obtain ⟨a, xs, bs, rfl, rfl, hs, hp, hbl, hal, hsr, hdp, q⟩ := h
  obtain ⟨w1, rfl, e1⟩ := vals1 rz
  obtain rfl : w1 = Value.bool true := e1
  obtain ⟨its, rv, hl, hz⟩ := I.list hs
  rw [Vals.ref1 r]
  have E1 := eachIs_of (H := H) (K := X.K) (enc := enc) hp rv
  refine PySem.W.sorted_rev_data (b := true) (R := fun (u : Value) b => ∃ x, RelV x u ∧ (b, x) ∈ bs.zip xs) (enc := enc) hl.isList (E1.mono fun u b ⟨x, a1, a2, a3⟩ => ⟨x, a1, a3⟩) (E1.mono fun u b ⟨x, a1, a2, a3⟩ => Dp.reads I _ _ _ a2 a1) (PySem.W.AllAlike.of hal) hsr hbl (fun b _ => by have := hdp b; omega) fun out ho eo => ?_
  obtain ⟨ys, g1, g2⟩ := eachIs_back (F := fun b x => (b, x) ∈ bs.zip xs) eo
  obtain ⟨ep, he'⟩ := PyProof.Rows.sortedAll_at s.heap its out.toArray
  have hlen : ys.length ≤ sizeLine := by
    rw [g1.length, ho]
    exact hbl
  exact ⟨.ref _, upd H (s.heap.objs.size + 1) (.lst ys), I.laid (t' := s.toks) (fun _ _ => PyProof.Rows.sortedAll_old) (Nat.le_succ _) ⟨hlen, out, ep, g1, he'⟩, rfl, q _ _ g2 (I.hok.fresh (Nat.le_succ _))⟩
def sortRF (lt : α → α → Bool) (xs : List α) : List α := xs.mergeSort fun x y => !lt x y
theorem srtr_eq (q : Sb r) (xs : List α) : xs.mergeSort (PySem.W.dataLe true q.toD) = sortRF q.lt xs := by
  unfold sortRF
  congr 1
  funext x y
  show (!PySem.W.dataLt (q.toD x) (q.toD y)) = _
  rw [q.ltD]
theorem sortRF_len (lt : α → α → Bool) (xs : List α) : (sortRF lt xs).length = xs.length := List.length_mergeSort _
theorem fe_sortedR {x id : Str} {p kpos : Pos} {j : Nat} {bpos : Pos} {f : ε → Rs (List α)} (q : Sb r) (hu : X.A.units + 65 < cLine) (hg : Gl X x) (hm : X.mg x = none) (hv : bootBuiltins x = some (.builtin "sorted")) (ha : FE D X K R m e te (rList r) f) (hn : x ≠ "__name__" := by decide) (hdb : (x == ("__debug__" : Str)) = false := by decide) (hn8 : q.n ≤ 8 := by first | decide | exact Nat.le_of_ble_eq_true rfl)
    (hs : starEach (e :: []) X.env = (false, eval e X.env) :: starEach [] X.env := by rfl)
    (he : backTo pos (starEach (e :: []) X.env) = (false, eval e X.env) :: backTo pos (starEach [] X.env) := by rfl) (hpl : (backTo pos (starEach (e :: []) X.env)).any (·.1) = false := by rfl)
    (hall : (backToKw pos (keywordEach [⟨id, .Constant (.bool true) j bpos, kpos⟩] X.env)).all (·.1.isSome) = true := by rfl) (hnone : (backToKw pos (keywordEach [⟨id, .Constant (.bool true) j bpos, kpos⟩] X.env)).any (·.1.isNone) = false := by rfl) (hks : (backToKw pos (keywordEach [⟨id, .Constant (.bool true) j bpos, kpos⟩] X.env)).filterMap (·.1) = [Str.ofString "reverse"] := by rfl) :
    FE D X K R m (.Call (.Name x p) [e] [⟨id, .Constant (.bool true) j bpos, kpos⟩] pos) (tCKw (rSortedRD K q.toD) (tCons te tNil) (tCons (tC (.bl true)) tNil)) (rList r) (d1 (fun xs => some (sortRF q.lt xs)) f) := by
  cases ha.hK
  refine ⟨rfl, pe_callBK (cr_sortedRD hu) hg hm hv (pa_cons ha.pe pa_nil hs) (pk_cons pe_bl pk_nil) hn hdb he hpl hall hnone hks, fun H O F E σ I Q k => ?_⟩
  refine ha.sem H O F E σ I _ ((good_bind k).mono (fun xs _ k v H1 e1 r1 => ?_) fun _ k => k)
  obtain ⟨a, vs, rfl, hp, hl, hv2⟩ := r1
  refine ⟨a, vs, xs, rfl, rfl, .inl (.inl (hid_le.get _ _ hp)), Paired.imp hv2 fun _ _ z => q.dp (r.mono hidM_low z), hl, q.alk, ?_, fun b => Nat.le_trans (q.dep b) hn8, fun ys n hy hn => ?_⟩
  · rcases q.top with t | t
    · exact PySem.W.Sortable.tuples t
    · exact PySem.W.Sortable.others t
  · rw [srtr_eq] at hy
    have s := Fx.same_upd (o := .lst ys) hn
    exact k _ _ (e1.trans s) ⟨n, ys, rfl, hidM_new (Dom.same I.dom e1) hn, by rw [sortRF_len]; exact hl, Paired.imp hy fun _ _ z => r.mono (hidM_sm s) (mem_zipL hv2 z)⟩

/-! ### least -/
def Sb.Inj {r : Rp α} (q : Sb r) : Prop := ∀ x y, q.toD x = q.toD y → x = y
def Sbs.Inj {P : PD π} (q : Sbs P) : Prop := ∀ x y, q.toD x = q.toD y → x = y
theorem inj_int : sInt.Inj := fun x y h => PyData.int.inj h
theorem inj_ints : sInts.Inj := fun x y h => by
  have h : List.map PyData.int x = List.map PyData.int y := PyData.list.inj h
  exact (List.map_inj_right fun _ _ h => PyData.int.inj h).mp h
theorem inj_nil : sNil.Inj := fun _ _ _ => rfl
theorem inj_c {q : Sb r} {qs : Sbs P} (h : q.Inj) (hs : qs.Inj) : (sC q qs).Inj := fun x y e => by
  have e : q.toD x.1 :: qs.toD x.2 = q.toD y.1 :: qs.toD y.2 := e
  rw [List.cons.injEq] at e
  exact Prod.ext (h _ _ e.1) (hs _ _ e.2)
theorem inj_tup {q : Sb r} {qs : Sbs P} (h : q.Inj) (hs : qs.Inj) : (sTup q qs).Inj := fun x y e => inj_c h hs x y (PyData.tuple.inj e)
def minB (lt : α → α → Bool) : List α → Option α
  | [] => none
  | x :: xs => some (xs.foldl (fun a y => if lt y a then y else a) x)
theorem minD_map (q : Sb r) (x : α) (xs : List α) : PySem.W.minD (q.toD x) (xs.map q.toD) = q.toD (xs.foldl (fun a y => if q.lt y a then y else a) x) := by
  unfold PySem.W.minD
  induction xs generalizing x with
  | nil => rfl
  | cons y ys ih =>
    rw [List.map_cons, List.foldl_cons, List.foldl_cons, q.ltD, ← ih]
    congr 1
    split <;> rfl
def rMinD (K : PySem.W.Frag) {β : Type} (enc : β → PyData) : List V → Hp → VK → Prop := fun vs H Q => ∃ (a : Addr) (xs : List V) (b : β) (bs : List β), vs = [V.ref a] ∧ SqL K H a xs ∧ Paired (fun b x => Dp K H x (enc b)) (b :: bs) xs ∧ (∀ x y, PySem.W.alike (enc x) (enc y) = true) ∧ (∀ b, enc b ≠ .none) ∧ (∀ b, (enc b).depth ≤ 8) ∧
  ∀ (y : β) (x : V), Paired (fun b x => True) [y] [x] → (∃ i : Nat, (b :: bs)[i]? = some y ∧ xs[i]? = some x) → enc y = PySem.W.minD (enc b) (bs.map enc) → Q x H
theorem cr_minD1 {β : Type} {enc : β → PyData} (hc : X.calm = true) (hu : X.A.units + 65 < cLine) : CallR X (.builtin "min") (rMinD X.K enc) := by
  intro pins s σ H vs us Q I r h
  obtain ⟨a, xs, b, bs, rfl, hs, hp, hal, hnn, hdp, q⟩ := h
  obtain ⟨its, rv, hl, hz⟩ := I.list hs
  rw [Vals.ref1 r]
  have E1 := eachIs_of (H := H) (K := X.K) (enc := enc) hp rv
  obtain ⟨ws, ra⟩ := PySem.W.each_readsAll enc (E1.mono fun u b ⟨x, a1, a2, a3⟩ => Dp.reads I _ _ _ a2 a1)
  have dep : PyData.depthAll ((b :: bs).map enc) ≤ 8 := by
    have : ∀ l : List β, PyData.depthAll (l.map enc) ≤ 8 := by
      intro l
      induction l with
      | nil => rw [List.map_nil, PyData.depthAll]; omega
      | cons y ys ih => rw [List.map_cons, PyData.depthAll]; exact Nat.max_le.mpr ⟨hdp y, ih⟩
    exact this _
  refine PySem.W.min_list_data (x := enc b) (xs := bs.map enc) (I.ok.hd hc) hl.isList ra ?_ ?_ fun i v h' tk as hv hr k => ?_
  · refine ⟨fun x hx y hy => ?_, fun x hx => ?_⟩
    · rw [← List.map_cons] at hx hy
      obtain ⟨x', _, rfl⟩ := List.mem_map.mp hx
      obtain ⟨y', _, rfl⟩ := List.mem_map.mp hy
      exact hal x' y'
    · rw [← List.map_cons] at hx
      obtain ⟨x', _, rfl⟩ := List.mem_map.mp hx
      exact hnn x'
  · rw [← List.map_cons]
    omega
  · have hv : its[i]? = some v := by simpa using hv
    obtain ⟨x, gx, rx⟩ : ∃ x, xs[i]? = some x ∧ RelV x v := by
      have : ∀ {xs : List V} {its : List Value} {i : Nat}, Vals xs its → its[i]? = some v → ∃ x, xs[i]? = some x ∧ RelV x v := by
        intro xs its i h
        induction h generalizing i with
        | nil => intro z; simp at z
        | cons r _ ih =>
          intro z
          cases i with
          | zero => exact ⟨_, rfl, by simpa using (by simpa using z : _ = v) ▸ r⟩
          | succ i => simpa using ih (i := i) (by simpa using z)
      exact this rv hv
    obtain ⟨y, gy, dy⟩ := Paired.getR hp gx
    obtain ⟨as2, hr2⟩ := Dp.reads I _ _ _ dy rx
    have hr3 := PyProof.Rows.Reads.keeps k hr2
    have e := (hr3.unique _ _ hr).1
    exact ⟨x, H, I.kept k, rx, q y x (.cons trivial .nil) ⟨i, gy, gx⟩ e⟩
theorem fe_min1D {x : Str} {p : Pos} {f : ε → Rs (List α)} (q : Sb r) (qi : q.Inj) (hc : X.calm = true) (hu : X.A.units + 65 < cLine) (hg : Gl X x) (hm : X.mg x = none) (hv : bootBuiltins x = some (.builtin "min")) (ha : FE D X K R m e te (rList r) f) (hn : x ≠ "__name__" := by decide) (hdb : (x == ("__debug__" : Str)) = false := by decide) (hn8 : q.n ≤ 8 := by first | decide | exact Nat.le_of_ble_eq_true rfl)
    (hnn : ∀ a, q.toD a ≠ .none := by intro _ z; cases z)
    (he : starEach (e :: []) X.env = (false, eval e X.env) :: starEach [] X.env := by rfl) (hpl : (backTo pos (starEach [] X.env)).any (·.1) = false := by rfl) : FE D X K R m (.Call (.Name x p) [e] [] pos) (tCB (rMinD K q.toD) (tCons te tNil)) r (d1 (minB q.lt) f) := by
  cases ha.hK
  refine fe_b1 (cr_minD1 hc hu) (fun H O F xs z v d h ez Q k => ?_) hg hm hv ha hn hdb he hpl
  obtain ⟨a, vs, rfl, hp, hl, hv2⟩ := h
  cases xs with
  | nil => cases ez
  | cons b bs =>
    cases ez
    refine ⟨a, vs, b, bs, rfl, .inl (.inl (hid_le.get _ _ hp)), Paired.imp hv2 fun _ _ z => q.dp (r.mono hidM_low z), q.alk, hnn, fun b => Nat.le_trans (q.dep b) hn8, fun y x _ ⟨i, g1, g2⟩ e => ?_⟩
    rw [minD_map] at e
    have := qi _ _ e
    subst this
    obtain ⟨w, a1, a2⟩ := Paired.get hv2 g1
    rw [g2] at a1
    cases a1
    exact k x H (Same.refl H) a2
end
end Fx

/-! Fx24: a list from its end. -/
namespace Fx
open PySem PySem.Spec L2
variable [Tbs]
section
variable {ε α β π : Type} {D : EnvD ε} {X : Cx} {K : PySem.W.Frag} {R : Str → Hp → Prop} {m : Md} {r : Rp α} {e : Expr} {te : TE} {pos : Pos} {P : PD π}
theorem fe_revL {f : ε → Rs (List α)} {j : Nat} {p1 p2 p3 : Pos} (ha : FE D X K R m e te (rList r) f) :
    FE D X K R m (.Subscript e (.Slice none none (some (.UnaryOp .USub (.Constant (.int 1) j p1) p2)) p3) pos) (tRevL K te) (rList r) (d1 (fun xs => some xs.reverse) f) := by
  cases ha.hK
  refine ⟨rfl, pe_revL ha.pe, fun H O F E σ I Q k => ?_⟩
  refine ha.sem H O F E σ I _ ((good_bind k).mono (fun xs _ k v H1 e1 r1 => ?_) fun _ k => k)
  obtain ⟨a, vs, rfl, hp, hl, hv2⟩ := r1
  refine ⟨a, vs, rfl, .inl (.inl (hid_le.get _ _ hp)), fun p hn => ?_⟩
  have s := Fx.same_upd (o := .lst vs.reverse) hn
  exact k _ _ (e1.trans s) ⟨p, vs.reverse, rfl, hidM_new (Dom.same I.dom e1) hn, by rw [List.length_reverse]; exact hl, Paired.rev (Paired.imp hv2 fun _ _ z => r.mono (hidM_sm s) z)⟩
end
end Fx

/-! Fx25: an exception that is kept beyond its clause. -/
namespace Fx
open PySem PySem.Spec PyProof.Rows L2
section
variable {X : Cx} {pins : List (Addr × Obj)} {σ : L2.St} {H : Hp} {sI s' : Shared} {B : Heap} {a : Addr} {o : HO}
/-- the object of a caught exception -/
def KeptO (D : Addr) (a : Addr) : HO := .ext fun h => ∃ oe : Obj, h.get? a = some oe ∧ Zc (.ref D) none oe ∧ ∃ vs, oe.data = .fields vs
theorem keptO_ok {P : Program} {w : World} {h : Heap} {D : Addr} {oe : Obj} {vs : Array Value} (e : h.get? a = some oe) (z : Zc (.ref D) none oe) (d : oe.data = .fields vs) : ObjOk P w H h a (KeptO D a) :=
  ⟨⟨oe, e, z, vs, d⟩, ⟨oe, e⟩, fun _ _ ⟨o, q, r⟩ k => ⟨o, k o q, r⟩⟩
theorem keep_landed (I : Inv X pins σ H sI) (gr : ∀ b u, sI.heap.get? b = some u → b ∉ frs X.stack → B.get? b = some u) (n0 : sI.heap.get? a = none) (nH : H a = none) (stays : B.StaysIn s'.heap) (upto : sI.heap.UpToSlots s'.heap)
    (eo : s'.os = sI.os) (eg : AllBare s'.gens) (new : ObjOk X.prog X.w (upd H a o) s'.heap a o) : Inv X pins σ (upd H a o) s' := by
  have ne : ∀ {b u}, sI.heap.get? b = some u → b ≠ a := fun q z => by
    rw [z, n0] at q
    cases q
  have frK : ∀ b ∈ frs X.stack, ∀ u, sI.heap.get? b = some u → ∃ sl, s'.heap.get? b = some { u with slots := sl } := fun b hb u q => by
    obtain ⟨_, u', q', dat⟩ := I.stack.mem hb
    rw [q] at q'
    cases q'
    exact upto b u q dat
  have un : Un (frs X.stack) [] H (upd H a o) sI.heap s'.heap := by
    constructor
    · exact fun b u q _ hb _ => stays b u (gr b u q hb)
    · exact fun b u q _ hb _ => frK b hb u q
    · exact fun b u q n _ => (upd_ne (ne q)).trans n
    · intro b u q _
      by_cases hb : b ∈ frs X.stack
      · exact ⟨_, (frK b hb u q).choose_spec⟩
      · exact ⟨u, stays b u (gr b u q hb)⟩
    · exact fun b xs q => (upd_ne (ne_of_none q nH)).trans q
    · exact fun b u xs q => (upd_ne (ne_of_none q nH)).trans q
    · exact fun b ps q => ⟨#[], by rw [upd_ne (ne_of_none q nH), q]; simp⟩
  have J := I.call (t' := s'.toks) (d' := s'.drawn) (g' := s'.gens) un (HOk.laidN ((I.inGround gr).kept stays) (fun _ _ q => q) nH new) eg (fun _ z => nomatch z)
  obtain ⟨j1, j2, j3, j4, j5, j6, j7, j8, j9, j10, j11⟩ := J
  exact ⟨j1, eo.trans I.os, eg, j4, j5, j6, j7, j8, j9, j10, j11⟩
theorem to_suite {s : Shared} (I : Inv X pins σ H s) (a : Addr) : Inv (X.suite a (X.pn ++ pins)) [] σ H s := by
  obtain ⟨j1, j2, j3, j4, j5, j6, j7, j8, j9, j10, j11⟩ := I
  exact ⟨j1.suite _ _, j2, j3, j4, j5, j6, j7, j8, fun p hp => j9 p (by simpa using hp), j10, j11⟩
theorem of_suite {s : Shared} {pn' : List (Addr × Obj)} (I : Inv (X.suite a (X.pn ++ pins)) pn' σ H s) (ok : X.Ok) : Inv X pins σ H s := by
  obtain ⟨j1, j2, j3, j4, j5, j6, j7, j8, j9, j10, j11⟩ := I
  exact ⟨ok, j2, j3, j4, j5, j6, j7, j8, fun p hp => j9 p (List.mem_append_left _ hp), j10, j11⟩
end
/-- what the clause 'except x as n' wishes, when the body of the clause keeps the object -/
def wKeep (K : PySem.W.Frag) (c : Value) (i : Nat) (ts : Addr → TS) (Wout : WX) (D : Ends) : WX := fun cls d σ H =>
  ∃ b, PySem.W.exmOne K cls c = some b ∧ (b = false → Wout cls d σ H) ∧ (b = true → ∃ C : Addr, cls = .ref C ∧ d = none ∧ ∀ a, H a = none →
    ts a { nx := fun σ' H' => D.nx (σ'.set i none) H', rt := D.rt, bk := fun σ' H' => D.bk (σ'.set i none) H', ct := fun σ' H' => D.ct (σ'.set i none) H' } (σ.set i (some (.ref a))) (upd H a (KeptO C a)))
section
variable {X : Cx} {x n : Str} {c : Value} {i : Nat} {body suite : List Stmt} {b₀ : Stmt} {np pos pos' : Pos} {tb : WX → TS} {ts : Addr → TS} {Wout : WX}
theorem ps_try_keep (hs : X.stack = X.env :: X.outer) (hf : X.env.frame = some X.env.locals) (hN : X.N.Nodup) (hi : X.N[i]? = some n) (hln : X.env.kindOf n = some .local)
    (hc : Names X x c) (tk : Takes X Wout) (hx : X.ex = [])
    (hb : ∀ (W : WX) (pl : List (Addr × Obj)) (xe : Value → Shared → Prop), Takes (X.tr pl xe) W → PassesOwn (model X.prog X.w) X.A X.env xe → PSs (X.tr pl xe) body (tb W))
    (hsu : ∀ (a : Addr) (pl : List (Addr × Obj)), PSs (X.suite a pl) (b₀ :: suite) (ts a)) :
    PS X (.Try body [.ExceptHandler (some (.Name x np)) (some n) (b₀ :: suite) pos'] [] [] pos) (fun D σ H => tb (wKeep X.K c i ts Wout D) D σ H) := by
  constructor
  intro ps s₀ σ₀ H₀ D I₀ h₀
  have okX := I₀.ok
  have frA : X.A.frames = some (X.env :: X.outer) := okX.frames.trans (congrArg some hs)
  apply wpAny_Try_except
  have run := hb (wKeep X.K c i ts Wout D) (X.pn ++ ps)
    (fun e z₁ => wpAny (model X.prog X.w) X.A (noteFrame e X.env)
      (fun _ z₂ => wpAny (model X.prog X.w) X.A (setFlight e none)
        (fun _ z₃ => wpAny (model X.prog X.w) X.A
          (handleBy e X.env [.ExceptHandler (some (.Name x np)) (some n) (b₀ :: suite) pos'])
          (SP X ps D) X.xe z₃)
        X.xe z₂)
      X.xe z₁)
    (fun u t caught => ?_) PassesOwn.looking
  · refine wpAny_mono (run.run [] s₀ σ₀ H₀ D (I₀.toTry _) h₀) (fun fl t post => ?_) (fun _ _ q => q)
    cases fl with
    | next =>
      obtain ⟨σ₁, H₁, J, q⟩ := post
      exact wpAny_execs_nil ⟨σ₁, H₁, J.ofTry okX, q⟩
    | brk =>
      obtain ⟨σ₁, H₁, J, q⟩ := post
      exact ⟨σ₁, H₁, J.ofTry okX, q⟩
    | cont =>
      obtain ⟨σ₁, H₁, J, q⟩ := post
      exact ⟨σ₁, H₁, J.ofTry okX, q⟩
    | ret w =>
      obtain ⟨y, σ₁, H₁, J, r, q⟩ := post
      exact ⟨y, σ₁, H₁, J.ofTry okX, r, q⟩
  · obtain ⟨a, G, sI, ps₁, σ₁, H₁, cls, d, rfl, JT, gr, upto, air, nH, eo, eg, b, hexm, hno, hyes⟩ := caught
    have J : Inv X ps σ₁ H₁ sI := JT.ofTry okX
    have airX : Sky G (X.env :: X.outer) a (Zc cls d) X.env.locals t.heap := hs ▸ air
    show wpAny (model X.prog X.w) X.A (noteFrame (.ref a) X.env) _ _ _
    refine Sky.land Zc.steady frA hf airX fun h₁ fly₁ up₁ => ?_
    have J₁ : Inv X ps σ₁ H₁ { t with heap := h₁ } := J.landed gr fly₁.1 (upto.trans up₁) eo eg
    obtain ⟨ob₁, fs₁, get₁, zc₁, dat₁⟩ := fly₁.there
    have nGround : G.get? a = none := fly₁.2.1
    have nFrame : a ∉ frs X.stack := fun hm => by
      rw [hs] at hm
      obtain ⟨_, ob', get', dat'⟩ := fly₁.2.2.1.mem hm
      rw [get₁] at get'
      cases get'
      exact dat' _ dat₁
    have n0 : sI.heap.get? a = none := by
      cases q : sI.heap.get? a with
      | none => rfl
      | some u =>
        have := gr a u q nFrame
        rw [nGround] at this
        cases this
    refine wpAny_handleBy_cons (codeAny_handlers_test ?_) (by intro q; cases q)
    have look : PySem.W.Looks (model X.prog X.w) h₁ (typeOf (.ref a)) cls := fun A Q E s k q => wpAny_typeOf_ref (k _ _ get₁) (zc₁.1 ▸ q)
    have match₁ := PySem.W.exm_one (M := model X.prog X.w) J₁.kIn look hexm
    have S₁ := to_suite J₁ a
    have named : ∀ {Q : Value → Shared → Prop} {E : Value → Shared → Prop}, Q c { t with heap := h₁ } →
        wpAny (model X.prog X.w) (X.A.mark (some (.ref a))) (eval (.Name x np) X.env) Q E { t with heap := h₁ } := by
      intro Q E q
      obtain ⟨g1, g2, g3 | ⟨g3, g4, g5⟩⟩ := hc
      · exact ld_glob (X := X.suite a (X.pn ++ ps)) S₁ g1 g3 q g2
      · exact ld_blt (X := X.suite a (X.pn ++ ps)) S₁ g1 g3 g4 q g5 g2
    refine named (match₁.here ?_)
    cases b with
    | false =>
      show wpAny _ X.A (handleBy (.ref a) X.env []) _ _ _
      apply wpAny_handleBy_nil
      obtain ⟨k1, k2, k3, oe, vs, T, oT, ts', he, hz, hd, h1, hr⟩ := id fly₁
      unfold PySem.passOn
      refine wpAny_bind (wpAny_field he hd h1 ?_)
      rw [if_neg (by simp)]
      have done : wpAny (model X.prog X.w) X.A (setFlight (.ref a) X.env.frame)
          (fun _ z => wpAny (model X.prog X.w) X.A (throw (.ref a) : Sem Flow) (SP X ps D) X.xe z) X.xe { t with heap := h₁ } := by
        rw [hf]
        refine HandSPX.setFlight_upZ fly₁ fun h₂ held up₂ => wpAny_throw (tk _ _ ?_)
        have airL : HandSPX.HeldZ G X.stack a (Zc cls d) X.env.locals h₂ := hs.symm ▸ held
        exact ⟨a, G, sI, ps, σ₁, H₁, cls, d, rfl, J, gr, (upto.trans up₁).trans up₂, .inr (.inr airL), nH, eo, eg, hno rfl⟩
      first
        | exact wpAny_bind (wpAny_pure (wpAny_bind done))
        | exact wpAny_bind done
    | true =>
      obtain ⟨C, rfl, rfl, body₁⟩ := hyes rfl
      apply codeAny_handlers_suite_as
      refine HandSPX.lands_againZ fly₁ fun h₂ fly₂ up₂ => ?_
      obtain ⟨ob₂, fs₂, get₂, zc₂, dat₂⟩ := fly₂.there
      have J₂ : Inv X ps σ₁ (upd H₁ a (KeptO C a)) { t with heap := h₂ } :=
        keep_landed (s' := { t with heap := h₂ }) J gr n0 nH fly₂.1 ((upto.trans up₁).trans up₂) eo eg (keptO_ok get₂ zc₂ dat₂)
      refine store_ok (X := X.suite a (X.pn ++ ps)) (v := .ref a) (to_suite J₂ a) hN hi (.inl hln) rfl (fun z S => ?_) (.inr hln)
      refine wpAny_mono ((hsu a (X.pn ++ ps)).run [] z _ _ _ S (body₁ a nH)) (fun fl z₂ post => ?_) (fun _ _ q => q.elim)
      have fin : ∀ {σ₂ : L2.St} {H₂ : Hp} {Q : Shared → Prop}, Inv (X.suite a (X.pn ++ ps)) [] σ₂ H₂ z₂ →
          (∀ z₃, Inv X ps (σ₂.set i none) H₂ z₃ → Q z₃) →
          wpAny (model X.prog X.w) X.A (do bindName X.env n .none; unbindBehindTheSuite X.env n pos') (fun _ z₃ => Q z₃) X.xe z₂ := by
        intro σ₂ H₂ Q S₂ k
        exact gone_ok (of_suite S₂ okX) hN hi hln k
      cases fl with
      | next =>
        obtain ⟨σ₂, H₂, S₂, q⟩ := post
        exact fin S₂ fun z₃ K₃ => ⟨_, _, K₃, q⟩
      | brk =>
        obtain ⟨σ₂, H₂, S₂, q⟩ := post
        exact fin S₂ fun z₃ K₃ => ⟨_, _, K₃, q⟩
      | cont =>
        obtain ⟨σ₂, H₂, S₂, q⟩ := post
        exact fin S₂ fun z₃ K₃ => ⟨_, _, K₃, q⟩
      | ret w =>
        obtain ⟨y, σ₂, H₂, S₂, r, q⟩ := post
        exact fin S₂ fun z₃ K₃ => ⟨_, _, _, K₃, r, q⟩
end
end Fx

/-! Fx26: defs that raise; a call's value dropped. -/
namespace Fx
open PySem PySem.Spec L2
variable [Tbs]
section
variable {ε ρ α β π : Type} {D : EnvD ε} {X : Cx} {K : PySem.W.Frag} {R : Str → Hp → Prop} {rr : RetD ρ} {m : Md} {e : Expr} {te : TE} {r : Rp α} {pos pos' : Pos}
theorem fs_drop {f : ε → Rs α} (he : FE D X K R m e te r f) (hs : swapsWith e none pos.line X.env = pure false := by rfl) : FS D X K R rr (.Expr e pos) (tDrop te) (fun E => (f E).bind fun _ => .ok (.nx E)) := by
  cases he.hK
  exact ⟨rfl, ps_expr he.pe hs, fun H O F E σ I Dn k => he.sem H O F E σ I _ ((good_bind k).mono (fun _ _ k v H1 e1 _ => k σ H1 F (Step.same e1) (I.same e1)) fun _ k H' e1 => k H' (Stab.of_same e1))⟩
/-- raise X('text') -/
theorem fs_raise {x t : Str} {C : Addr} {j : Nat} {p p2 : Pos} {W : WX} (hc : X.calm = true) (tk : Takes X W) (mk : PMk X (.Call (.Name x p) [.Constant (.str t) j p2] [] pos) (fun _ H Q => Q (.ref C) none H))
    (hR : ∀ σ H, R x H → W (.ref C) none σ H) (hK : X.K = K := by rfl) : FS D X K R rr (.Raise (some (.Call (.Name x p) [.Constant (.str t) j p2] [] pos)) none pos') (fun _ σ H => W (.ref C) none σ H) (fun _ => .exc x) :=
  ⟨hK, ps_raise hc tk mk, fun H O F E σ I Dn k => hR σ H (k H (Stab.of_same (Same.refl H)))⟩
end
section
variable {ε ρ π : Type} {Pg : Program} {w : World} {K : PySem.W.Frag} {mg : Str → Option Value} {base : Heap}
/-- a def that may raise -/
theorem fn_okX {ca : Str → Option Addr} {x qual : Str} {st : Stmt} {f : Addr} {fd : FuncData} {N ps : List Str} {k n : Nat} {P : PD π} {D : EnvD ε} {rr : RetD ρ} {e0 : π → ε} {bf : ε → Rs (Fl ε ρ)} (F : Fun K x qual st f fd) (S : FnScope N ps (defScope st)) (hst : StartR P D n e0)
    (hlen : ∀ K H H' a vs, P.rel K H H' a vs → vs.length = ps.length) (hn : N.length = ps.length + n)
    (hb : ∀ (cdv : Value) (A : Around) (outer : List Env) (s : Shared) (H : Hp) (E : XK), Room k (A.deeper (PyProof.Rows.envOfC qual (defScope st) s.heap.objs.size f cdv)) →
      ∃ t, FSs D (cxOf (L2.CX Pg w) Pg w K mg base N qual (defScope st) f cdv A outer s H E) K (xk ca E) rr (defBody st) t bf) :
    FnOk Pg w K mg base (L2.CX Pg w) (k + 1) f fd ps (spM K (xk ca) P rr fun a => runB bf (e0 a)) := by
  refine F.okX S (fun vs H Q E h => ?_) (fun cdv A outer s H vs Q E hr h => ?_)
  · obtain ⟨O, args, h1, _⟩ := h
    exact hlen _ _ _ _ _ h1
  · obtain ⟨O, args, h1, h2, hT, h3⟩ := h
    obtain ⟨t, ht⟩ := hb cdv A outer s H E hr
    refine ⟨t, ht.ps, ht.sem H O [] (e0 args) _ ?_ _ ((good_bind h3).mono (fun fl _ q => ?_) fun c q H' st' => q H' (Step.of_nil (F' := []) ⟨st', fun p hp => nomatch hp⟩))⟩
    · have hl := hlen _ _ _ _ _ h1
      have e : L2.start N vs = vs.map some ++ List.replicate n none := by
        unfold L2.start
        rw [hn, hl, Nat.add_sub_cancel_left]
      rw [e]
      exact ⟨hst.run h1, List.nodup_nil, (fun p hp => nomatch hp), h2, hT⟩
    · cases fl with
      | nx E => exact q.elim
      | bk E => exact q.elim
      | ct E => exact q.elim
      | rt a =>
        have q : ∀ v H' F', Same H H' → (∀ p ∈ F', H p = none) → F'.Nodup → (∀ p ∈ F', ∃ u, H' p = some u) → rr.rel K H' O a v F' → Q v H' := q
        exact fun v H' F' k n nd d rl => q v H' F' (Step.of_nil (F' := []) ⟨k, fun p hp => nomatch hp⟩) (fun p hp => (n p hp).resolve_left (by simp)) nd d rl
/-- in a def that may raise: what its exceptions are wished, and that its loops and calls let them out -/
theorem takes_def {N : List Str} {qual : Str} {scope : Scope} {f : Addr} {cdv : Value} {A : Around} {outer : List Env} {s : Shared} {H : Hp} {E : XK}
    (hs : (cxOf (L2.CX Pg w) Pg w K mg base N qual scope f cdv A outer s H E).stack = (cxOf (L2.CX Pg w) Pg w K mg base N qual scope f cdv A outer s H E).env :: (cxOf (L2.CX Pg w) Pg w K mg base N qual scope f cdv A outer s H E).outer := by rfl) :
    Takes (cxOf (L2.CX Pg w) Pg w K mg base N qual scope f cdv A outer s H E) (fun cls d _ H => E cls d H) := takes_of hs rfl rfl rfl
theorem passes_def {N : List Str} {qual : Str} {scope : Scope} {f : Addr} {cdv : Value} {A : Around} {outer : List Env} {s : Shared} {H : Hp} {E : XK} :
    Passes (L2.CX Pg w) (cxOf (L2.CX Pg w) Pg w K mg base N qual scope f cdv A outer s H E) E := passes_call takes_def fun _ _ _ _ h => h
theorem own_def {N : List Str} {qual : Str} {scope : Scope} {f : Addr} {cdv : Value} {A : Around} {outer : List Env} {s : Shared} {H : Hp} {E : XK} :
    PassesOwn (model Pg w) (cxOf (L2.CX Pg w) Pg w K mg base N qual scope f cdv A outer s H E).A (cxOf (L2.CX Pg w) Pg w K mg base N qual scope f cdv A outer s H E).env (cxOf (L2.CX Pg w) Pg w K mg base N qual scope f cdv A outer s H E).xe := passes_of (X := cxOf (L2.CX Pg w) Pg w K mg base N qual scope f cdv A outer s H E) rfl
end
end Fx

/-! Fx27: what a caught exception is asked. -/
namespace Fx
open PySem PySem.Spec L2
variable [Tbs]
/-- a caught exception's class, by its name, or none -/
def rX (ca : Str → Option Addr) : Rp (Option Str) := ⟨fun _ H x v => match x with
  | none => v = .non
  | some c => ∃ C a, ca c = some C ∧ v = .ref a ∧ H a = some (KeptO C a), fun {K H H' x v} e h => by
  cases x with
  | none => exact h
  | some c =>
    obtain ⟨C, a, h1, h2, h3⟩ := h
    exact ⟨C, a, h1, h2, e.get _ _ h3 fun ps z => by unfold KeptO at z; cases z⟩⟩
def rIsKept (K : PySem.W.Frag) : List V → Hp → VK → Prop := fun xs H Q => ∃ (a D : Addr) (y : V) (u : Value) (b : Bool), xs = [.ref a, y] ∧ H a = some (KeptO D a) ∧ ExcC K D ∧ (∀ z, RelV y z → z = u) ∧ PySem.W.kitOne K (.ref D) u = some b ∧ Q (.bl b) H
theorem call_isKept {X : Cx} : CallR X (.builtin "isinstance") (rIsKept X.K) := by
  intro pins s σ H xs us Q I r h
  obtain ⟨a, D, y, u, b, rfl, hk, C, only, e, q⟩ := h
  match us, r with
  | [_, z], .cons rx (.cons ry .nil) =>
    cases rx
    obtain rfl := only z ry
    obtain ⟨⟨oe, get, zc, vs, dat⟩, _, _⟩ := I.hok a _ hk
    have inst : PySem.W.InstAt s.heap a oe D none := by
      cases oe
      obtain ⟨z1, z2⟩ := zc
      dsimp only at z1 z2 dat
      subst z1 z2 dat
      exact ⟨get, rfl, rfl, trivial⟩
    have kit := PySem.W.handS_kitx_exc (x := a) (ox := oe) C.hg C.hk C.hs C.hd C.ha C.hn C.ht C.hm
    exact PySem.W.kia_one kit I.kIn inst e (fun n => nomatch n) fun t => ⟨.bl b, H, I.kept (t' := t) (fun _ _ n => n), rfl, q⟩
section
variable {ε α : Type} {D : EnvD ε} {X : Cx} {K : PySem.W.Frag} {R : Str → Hp → Prop} {ma m : Md} {e : Expr} {ta : TE} {pos : Pos}
/-- isinstance(x, C), x a caught exception, C a class of one's own or a built-in one -/
theorem fe_isX {ca : Str → Option Addr} {sub : Str → Option Bool} {f : ε → Rs (Option Str)} {y : Str} {p p2 : Pos} {yv : V} {u : Value} (hy : PE X (.Name y p2) (tC yv)) (only : ∀ z, RelV yv z → z = u) (hE : ∀ c C, ca c = some C → ExcC X.K C)
    (hsub : ∀ c C b, sub c = some b → ca c = some C → PySem.W.kitOne X.K (.ref C) u = some b) (hg : Gl X "isinstance") (hm : X.mg "isinstance" = none) (ha : FE D X K R ma e ta (rX ca) f)
    (he : starEach (e :: [.Name y p2]) X.env = (false, eval e X.env) :: starEach [.Name y p2] X.env := by rfl) (he2 : starEach [.Name y p2] X.env = (false, eval (.Name y p2) X.env) :: starEach [] X.env := by rfl) (hpl : (backTo pos (starEach [.Name y p2] X.env)).any (·.1) = false := by rfl) :
    FE D X K R m (.Call (.Name "isinstance" p) [e, .Name y p2] [] pos) (tCB (rIsKept K) (tCons ta (tCons (tC yv) tNil))) rBool (d1 (fun x => x.bind sub) f) := by
  cases ha.hK
  refine ⟨rfl, pe_callB call_isKept hg hm PyProof.Rows.boot_isinstance (pa_cons ha.pe (pa_cons hy pa_nil he2) he) (by decide) (by decide) he hpl, fun H O F E σ I Q kk => ?_⟩
  refine ha.sem H O F E σ I _ ((good_bind kk).mono (fun x _ kk v H1 e1 r1 => ?_) fun c kk => kk)
  cases x with
  | none => exact kk.elim
  | some c =>
    obtain ⟨C, a, h1, rfl, h3⟩ := r1
    cases q : sub c with
    | none =>
      have kk : Good (ofO (sub c)) _ _ := kk
      rw [q] at kk
      exact kk.elim
    | some b =>
      have kk : Good (ofO (sub c)) _ _ := kk
      rw [q] at kk
      exact ⟨a, C, yv, u, b, rfl, hidM_low.get _ _ h3 (fun ps z => by unfold KeptO at z; cases z), hE c C h1, only, hsub c C b q h1, kk _ H1 e1 rfl⟩
end
end Fx

/-! Fx28: try: f(..) / except C as n: y = n. -/
namespace Fx
open PySem PySem.Spec L2
variable [Tbs]
section
variable {ε ρ α β π : Type} {D : EnvD ε} {X : Cx} {K : PySem.W.Frag} {R : Str → Hp → Prop} {rr : RetD ρ}
def dTryK (sub : Str → Option Bool) (put : ε → Str → ε) (g : ε → Rs π) (mf : π → Rs β) : ε → Rs (Fl ε ρ) := fun E => match g E with
  | .ok a => match mf a with
    | .ok _ => .ok (.nx E)
    | .exc c => match sub c with
      | some true => .ok (.nx (put E c))
      | some false => .exc c
      | none => .bad
    | .bad => .bad
  | _ => .bad
theorem fs_tryKeep {ca : Str → Option Addr} {sub : Str → Option Bool} {Wout : WX} {xc n y xf : Str} {cv : Value} {i j k : Nat} {bi bj : Bool} {ri : Rp α} {gi : ε → Option α} {pi : ε → Option α → ε} {gt : ε → Option (Option Str)} {pt : ε → Option (Option Str) → ε} {np p1 p2 p3 p4 p5 p6 pos pos' : Pos}
    {fa : Addr} {fd : FuncData} {ps : List Str} {P : PD π} {rv : RetD β} {mf : π → Rs β} {e : Expr} {es : List Expr} {tr : TA} {g : ε → Rs π}
    (Li : Ln D D i (sS bi ri) (sS bi ri) gi pi) (Lj : Ln D D j (sS bj (rX ca)) (sS bj (rX ca)) gt pt) (hij : i ≠ j) (hs : X.stack = X.env :: X.outer) (hf : X.env.frame = some X.env.locals) (hN : X.N.Nodup) (hi : X.N[i]? = some n) (hj : X.N[j]? = some y) (hln : X.env.kindOf n = some .local)
    (hly : Loc X.env.scope y) (hfy : X.fn y = true ∨ X.env.scope.names.lookup y = some .local) (hvn : Vis X.env.scope n) (hdn : (n == ("__debug__" : Str)) = false) (hcn : (n == ("__classdict__" : Str)) = false)
    (hc : Names X xc cv) (tk : Takes X Wout) (hx : X.ex = []) (hE : ∀ c C b, sub c = some b → ca c = some C → PySem.W.exmOne K (.ref C) cv = some b) (hR : ∀ c C σ H, sub c = some false → ca c = some C → R c H → Wout (.ref C) none σ H) (hca : ∀ c b, sub c = some b → ∃ C, ca c = some C)
    (F : FnOk X.prog X.w K X.mg X.base (L2.CX X.prog X.w) k fa fd ps (spM K (xk ca) P rv mf)) (hr : Room k X.A) (hg : Gl X xf) (hm : X.mg xf = some (.ref fa)) (hk : PySem.W.keepIn K (.ref fa) = true) (hb : Binds K fd ps [])
    (ha : ∀ pl xe, FA D (X.tr pl xe) K R0 (e :: es) tr P g) (hK : X.K = K) (hdb : (xf == ("__debug__" : Str)) = false := by decide) (he : starEach (e :: es) X.env = (false, eval e X.env) :: starEach es X.env := by rfl) (hpl : (backTo p2 (starEach es X.env)).any (·.1) = false := by rfl)
    (hsw : swapsWith (.Call (.Name xf p1) (e :: es) [] p2) none p3.line X.env = pure false := by rfl) (hsw2 : swapsWith (.Name n p5) (some (.Name y p4)) p6.line X.env = pure false := by rfl) :
    FS D X K R rr (.Try [.Expr (.Call (.Name xf p1) (e :: es) [] p2) p3] [.ExceptHandler (some (.Name xc np)) (some n) [.Assign [.Name y p4] (.Name n p5) p6] pos'] [] [] pos)
      (fun Dn σ H => tDrop (tCallS (spM K (xk ca) P rv mf) (WE (wKeep K cv i (fun _ => tAsg (tVar i) (gName j)) Wout Dn)) tr) Dn σ H) (dTryK sub (fun E c => pi (pt E (some (some c))) none) g mf) := by
  subst hK
  refine ⟨rfl, ps_try_keep (tb := fun W => tDrop (tCallS (spM X.K (xk ca) P rv mf) (WE W) tr)) (ts := fun _ => tAsg (tVar i) (gName j)) hs hf hN hi hln hc tk hx
    (fun W pl xe tkW po => pss_one (ps_expr (X := X.tr pl xe) (pe_callS (X := X.tr pl xe) F hr hg hm hk hb (fun σ => passAt tkW σ) (ha pl xe).pa hdb he hpl) hsw))
    (fun a pl => pss_one (ps_set (X := X.suite a pl) hN hj hly (pe_var (X := X.suite a pl) hi hvn hdn hcn) hsw2 hfy)), fun H O F1 E σ I Dn kk => ?_⟩
  show tr σ H _
  unfold dTryK at kk
  cases eg : g E with
  | exc c => rw [eg] at kk; exact kk.elim
  | bad => rw [eg] at kk; exact kk.elim
  | ok args =>
    rw [eg] at kk
    dsimp only at kk
    refine (ha [] fun _ _ => False).sem H O F1 E σ I _ ?_
    rw [eg]
    intro vs H1 e1 r1
    refine ⟨O ++ F1, args, r1, dom_nil (Dom.same I.dom e1), (I.same e1).tab, ?_⟩
    cases em : mf args with
    | bad => rw [em] at kk; exact kk.elim
    | ok d =>
      rw [em] at kk
      intro v H2 F2 e2 _ _ _ _
      exact kk σ H2 F1 (Step.same (e1.trans e2)) (I.same (e1.trans e2))
    | exc c =>
      rw [em] at kk
      dsimp only at kk
      intro H2 e2
      cases esub : sub c with
      | none => rw [esub] at kk; exact kk.elim
      | some b =>
        rw [esub] at kk
        obtain ⟨C, hC⟩ := hca c b esub
        refine ⟨C, hC, b, hE c C b esub hC, fun eb => ?_, fun eb => ?_⟩
        · subst eb
          exact hR c C σ H2 esub hC (kk H2 (Stab.of_same (e1.trans e2)))
        · subst eb
          refine ⟨C, rfl, rfl, fun a na => ?_⟩
          have s3 : Same H (upd H2 a (KeptO C a)) := (e1.trans e2).trans (Fx.same_upd na)
          have I3 := I.same s3
          obtain ⟨Fj, wj, _, _, gj, relj, setj⟩ := RelF.slot Lj I3
          obtain ⟨F4, _, f1, _, st4, put4⟩ := setj _ [] (Stab.of_same (Same.refl _)) (fun q hq => nomatch hq) List.nodup_nil (fun q hq => nomatch hq)
          have I4 := put4 (some (some c)) (some (.ref a)) ⟨rfl, fun x ex => ⟨.ref a, rfl, by
            cases ex
            refine ⟨C, a, hC, rfl, ?_⟩
            have hd := Dom.same I.dom (e1.trans e2)
            have hd4 : Dom O F4 H2 := fun p hp => hd p (by
              rcases List.mem_append.mp hp with z | z
              · exact List.mem_append_left _ z
              · rcases f1 p z with z | z
                · cases z
                · exact List.mem_append_right _ z.1)
            exact hidM_new hd4 na⟩⟩
          obtain ⟨Fi, wi, _, _, gi', reli, seti⟩ := RelF.slot Li I4
          obtain ⟨F5, _, f5, _, st5, put5⟩ := seti _ [] (Stab.of_same (Same.refl _)) (fun q hq => nomatch hq) List.nodup_nil (fun q hq => nomatch hq)
          have I5 := put5 none none ⟨rfl, fun _ z => nomatch z⟩
          rw [List.getElem?_set_ne (Ne.symm hij)] at gi'
          have hil := (List.getElem?_eq_some_iff.mp gi').1
          refine ⟨.ref a, List.getElem?_set_self hil, ?_⟩
          show Dn.nx (((σ.set i (some (.ref a))).set j (some (.ref a))).set i none) _
          have es : ((σ.set i (some (V.ref a))).set j (some (V.ref a))).set i none = (σ.set j (some (V.ref a))).set i none := by
            rw [List.set_comm _ _ hij, List.set_set]
          rw [es]
          exact kk _ _ F5 (((Step.same s3).trans st4).trans st5) I5
end
end Fx

/-! Fx29: facts of one's own exception classes, raise in a def, None for a kept exception. -/
namespace Fx
open PySem PySem.Spec L2
variable [Tbs]
/-- what the top says of a class of one's own (below ValueError) that is raised -/
structure RsF (K : PySem.W.Frag) (mg : Str → Option Value) (ca : Str → Option Addr) (x : Str) (C : Addr) : Prop where
  ca : ca x = some C
  mg : mg x = some (.ref C)
  ex : PySem.W.excIn K C [.type "ValueError", .type "Exception", .type "BaseException", .type "object"] "ValueError.__new__" = true
  kp : PySem.W.keepIn K (.ref C) = true
  sb : PySem.W.subIn K (.ref C) (.type "BaseException") = some true
  ty : PySem.W.typeIn K (.ref C) = some (.type "type")
section
variable {ε ρ α : Type} {D : EnvD ε} {rr : RetD ρ} {Pg : Program} {w : World} {K : PySem.W.Frag} {mg : Str → Option Value} {base : Heap} {ca : Str → Option Addr}
theorem fs_rs {x t : Str} {C : Addr} {j : Nat} {p p2 pos pos' : Pos} {N : List Str} {qual : Str} {scope : Scope} {f : Addr} {cdv : Value} {A : Around} {outer : List Env} {s : Shared} {H : Hp} {E : XK} (T : RsF K mg ca x C)
    (hg : Gl (cxOf (L2.CX Pg w) Pg w K mg base N qual scope f cdv A outer s H E) x := by rfl) (hdb : (x == ("__debug__" : Str)) = false := by decide) :
    FS D (cxOf (L2.CX Pg w) Pg w K mg base N qual scope f cdv A outer s H E) K (xk ca E) rr (.Raise (some (.Call (.Name x p) [.Constant (.str t) j p2] [] pos)) none pos') (fun _ σ H => E (.ref C) none H) (fun _ => .exc x) :=
  fs_raise (W := fun cls d _ H => E cls d H) rfl takes_def (pmk_own PySem.F.excBase_ValueError T.ex T.mg T.kp (raises_own T.sb T.ty) hg hdb) (fun _ _ ⟨C', h1, h2⟩ => by
    rw [T.ca] at h1
    cases h1
    exact h2)
end
section
variable {ε α : Type} {D : EnvD ε} {X : Cx} {K : PySem.W.Frag} {R : Str → Hp → Prop} {m : Md} {ca : Str → Option Addr} {j : Nat} {pos : Pos}
theorem fe_noneX (hK : X.K = K := by rfl) : FE D X K R m (.Constant .none j pos) (tC .non) (rX ca) (dC none) :=
  ⟨hK, pe_non, fun H O F E σ I Q k => k .non H (Same.refl H) rfl⟩
end
end Fx
namespace Fx
open PySem PySem.Spec L2
variable [Tbs]
section
variable {ε π : Type} {Pg : Program} {w : World} {K : PySem.W.Frag} {mg : Str → Option Value} {base : Heap}
/-- the body of a def that gives nothing back -/
def runN {ε : Type} (bf : ε → Rs (Fl ε Unit)) (E : ε) : Rs Unit := (bf E).bind fun fl => match fl with
  | .nx _ => .ok ()
  | _ => .bad
theorem fn_okXN {ca : Str → Option Addr} {x qual : Str} {st : Stmt} {f : Addr} {fd : FuncData} {N ps : List Str} {k n : Nat} {P : PD π} {D : EnvD ε} {e0 : π → ε} {bf : ε → Rs (Fl ε Unit)} (F : Fun K x qual st f fd) (S : FnScope N ps (defScope st)) (hst : StartR P D n e0)
    (hlen : ∀ K H H' a vs, P.rel K H H' a vs → vs.length = ps.length) (hn : N.length = ps.length + n)
    (hb : ∀ (cdv : Value) (A : Around) (outer : List Env) (s : Shared) (H : Hp) (E : XK), Room k (A.deeper (PyProof.Rows.envOfC qual (defScope st) s.heap.objs.size f cdv)) →
      ∃ t, FSs D (cxOf (L2.CX Pg w) Pg w K mg base N qual (defScope st) f cdv A outer s H E) K (xk ca E) (retS rNone) (defBody st) t bf) :
    FnOk Pg w K mg base (L2.CX Pg w) (k + 1) f fd ps (spM K (xk ca) P (retS rNone) fun a => runN bf (e0 a)) := by
  refine F.okX S (fun vs H Q E h => ?_) (fun cdv A outer s H vs Q E hr h => ?_)
  · obtain ⟨O, args, h1, _⟩ := h
    exact hlen _ _ _ _ _ h1
  · obtain ⟨O, args, h1, h2, hT, h3⟩ := h
    obtain ⟨t, ht⟩ := hb cdv A outer s H E hr
    refine ⟨t, ht.ps, ht.sem H O [] (e0 args) _ ?_ _ ((good_bind h3).mono (fun fl _ q => ?_) fun c q H' st' => q H' (Step.of_nil (F' := []) ⟨st', fun p hp => nomatch hp⟩))⟩
    · have hl := hlen _ _ _ _ _ h1
      have e : L2.start N vs = vs.map some ++ List.replicate n none := by
        unfold L2.start
        rw [hn, hl, Nat.add_sub_cancel_left]
      rw [e]
      exact ⟨hst.run h1, List.nodup_nil, (fun p hp => nomatch hp), h2, hT⟩
    · cases fl with
      | rt a => exact q.elim
      | bk E => exact q.elim
      | ct E => exact q.elim
      | nx E =>
        have q : ∀ v H' F', Same H H' → (∀ p ∈ F', H p = none) → F'.Nodup → (∀ p ∈ F', ∃ u, H' p = some u) → (retS rNone).rel K H' O () v F' → Q v H' := q
        exact fun σ' H' F' stp I' => q .non H' [] (Step.of_nil stp) (fun p hp => nomatch hp) List.nodup_nil (fun p hp => nomatch hp) ⟨rfl, rfl⟩
end
end Fx
namespace Fx
open PySem PySem.Spec L2
variable [Tbs]
section
variable {ε ρ π : Type} {Pg : Program} {w : World} {K : PySem.W.Frag} {mg : Str → Option Value} {base : Heap}
/-- a def that may raise and holds a lambda -/
theorem fn_okXL {ca : Str → Option Addr} {x qual : Str} {st : Stmt} {f : Addr} {fd : FuncData} {N ps : List Str} {k n : Nat} {P : PD π} {D : EnvD ε} {rr : RetD ρ} {e0 : π → ε} {bf : ε → Rs (Fl ε ρ)} (F : Fun K x qual st f fd) (S : FnScope N ps (defScope st)) (hst : StartR P D n e0)
    (hlen : ∀ K H H' a vs, P.rel K H H' a vs → vs.length = ps.length) (hn : N.length = ps.length + n)
    (hb : ∀ (cdv : Value) (A : Around) (outer : List Env) (s : Shared) (H : Hp) (E : XK), fd.code = cdv → Room k (A.deeper (PyProof.Rows.envOfC qual (defScope st) s.heap.objs.size f cdv)) →
      ∃ t, FSs D (cxOf (L2.CX Pg w) Pg w K mg base N qual (defScope st) f cdv A outer s H E) K (xk ca E) rr (defBody st) t bf) :
    FnOk Pg w K mg base (L2.CX Pg w) (k + 1) f fd ps (spM K (xk ca) P rr fun a => runB bf (e0 a)) := by
  obtain ⟨oc, od, kV, doc, pm, an, cdv, ct, osl, rfl, lk, hcd⟩ := F.ex
  refine fn_of lk hcd S (fun vs H Q E h => ?_) fun A outer s H vs Q E hr h => ?_
  · obtain ⟨O, args, h1, _⟩ := h
    exact hlen _ _ _ _ _ h1
  · obtain ⟨O, args, h1, h2, hT, h3⟩ := h
    obtain ⟨t, ht⟩ := hb cdv A outer s H E rfl hr
    refine ⟨t, ht.ps, ht.sem H O [] (e0 args) _ ?_ _ ((good_bind h3).mono (fun fl _ q => ?_) fun c q H' st' => q H' (Step.of_nil (F' := []) ⟨st', fun p hp => nomatch hp⟩))⟩
    · have hl := hlen _ _ _ _ _ h1
      have e : L2.start N vs = vs.map some ++ List.replicate n none := by
        unfold L2.start
        rw [hn, hl, Nat.add_sub_cancel_left]
      rw [e]
      exact ⟨hst.run h1, List.nodup_nil, (fun p hp => nomatch hp), h2, hT⟩
    · cases fl with
      | nx E => exact q.elim
      | bk E => exact q.elim
      | ct E => exact q.elim
      | rt a =>
        have q : ∀ v H' F', Same H H' → (∀ p ∈ F', H p = none) → F'.Nodup → (∀ p ∈ F', ∃ u, H' p = some u) → rr.rel K H' O a v F' → Q v H' := q
        exact fun v H' F' k n nd d rl => q v H' F' (Step.of_nil (F' := []) ⟨k, fun p hp => nomatch hp⟩) (fun p hp => (n p hp).resolve_left (by simp)) nd d rl
end
end Fx

/-! Fx30: how plain functions are reckoned with that may raise one class. -/
namespace Fx
open PySem PySem.Spec L2
def wx {α : Type} (c : Str) (m : Rs α) (Q : α → Prop) : Prop := match m with
  | .ok a => Q a
  | .exc e => e = c
  | .bad => False
section
variable {α β γ ε ρ : Type} {c : Str}
theorem wx_ok {a : α} {Q : α → Prop} : wx c (.ok a) Q = Q a := rfl
theorem wx_exc {e : Str} {Q : α → Prop} : wx c (.exc e : Rs α) Q = (e = c) := rfl
theorem wx_bind {m : Rs α} {k : α → Rs β} {Q : β → Prop} : wx c (m.bind k) Q = wx c m fun a => wx c (k a) Q := by cases m <;> rfl
theorem wx_ite {p : Prop} [Decidable p] {a b : Rs α} {Q : α → Prop} : wx c (if p then a else b) Q = if p then wx c a Q else wx c b Q := by split <;> rfl
theorem wx_nox {m : Rs α} {Q : α → Prop} : wx c (nox m) Q = wp m Q := by cases m <;> rfl
theorem wx.mono {m : Rs α} {Q Q' : α → Prop} (h : wx c m Q) (k : ∀ a, Q a → Q' a) : wx c m Q' := by
  cases m with
  | ok a => exact k a h
  | exc c => exact h
  | bad => exact h
theorem wp.wx {m : Rs α} {Q : α → Prop} (h : wp m Q) : Fx.wx c m Q := by
  cases m with
  | ok b => exact h
  | exc c => exact h.elim
  | bad => exact h.elim
theorem wx.eq {m : Rs α} (h : wx c m fun _ => False) : m = .exc c := by
  cases m with
  | ok b => exact h.elim
  | exc e => exact congrArg _ h
  | bad => exact h.elim
theorem wx_of_eq {m : Rs α} {a : α} {Q : α → Prop} (e : m = .ok a) (h : Q a) : wx c m Q := by rw [e]; exact h
theorem wx_of_exc {m : Rs α} {Q : α → Prop} (e : m = .exc c) : wx c m Q := by rw [e]; rfl
theorem wx_some {o : Option α} {a : α} {Q : α → Prop} (e : o = some a) (h : Q a) : wx c (ofO o) Q := by rw [e]; exact h
theorem wx_forR {st : ε → α → Option ε} {body : ε → Rs (Fl ε ρ)} {Q : Fl ε ρ → Prop} (P : Nat → ε → Prop) : ∀ (xs : List α) (E : ε), P 0 E →
    (∀ i x E, xs[i]? = some x → P i E → ∃ E1, st E x = some E1 ∧ wx c (body E1) fun fl => match fl with
      | .nx E2 => P (i + 1) E2
      | .ct E2 => P (i + 1) E2
      | .bk E2 => Q (.nx E2)
      | .rt a => Q (.rt a)) → (∀ E, P xs.length E → Q (.nx E)) → wx c (forR st body xs E) Q := by
  intro xs
  induction xs generalizing P with
  | nil => exact fun E h0 _ hd => hd E h0
  | cons x xs ih =>
    intro E h0 hs hd
    obtain ⟨E1, e1, h1⟩ := hs 0 x E rfl h0
    unfold forR
    rw [e1, ofO_some, Rs.bind_ok, wx_bind]
    refine h1.mono fun fl q => ?_
    have ih' := fun E (h : P 1 E) => ih (fun i => P (i + 1)) E h (fun i y E hy hp => hs (i + 1) y E (by simpa using hy) hp) (fun E h => hd E h)
    cases fl with
    | nx E2 => exact ih' E2 q
    | ct E2 => exact ih' E2 q
    | bk E2 => exact q
    | rt a => exact q
theorem wx_forL {st : ε → α → Option ε} {body : ε → Rs (Fl ε ρ)} {Q : Fl ε ρ → Prop} (P : List α → ε → Prop) (xs : List α) (E : ε) (h0 : P [] E)
    (hs : ∀ d x r E, xs = d ++ x :: r → P d E → ∃ E1, st E x = some E1 ∧ wx c (body E1) fun fl => match fl with
      | .nx E2 => P (d ++ [x]) E2
      | .ct E2 => P (d ++ [x]) E2
      | .bk E2 => Q (.nx E2)
      | .rt a => Q (.rt a)) (hd : ∀ E, P xs E → Q (.nx E)) : wx c (forR st body xs E) Q := by
  refine wx_forR (fun i E => P (xs.take i) E) xs E (by simpa using h0) (fun i x E hx hp => ?_) (fun E h => hd E (by simpa using h))
  have hi : i < xs.length := by
    rcases Nat.lt_or_ge i xs.length with h | h
    · exact h
    · rw [List.getElem?_eq_none h] at hx; cases hx
  have e : xs = xs.take i ++ x :: xs.drop (i + 1) := by
    rw [List.getElem?_eq_getElem hi] at hx
    cases hx
    rw [← List.drop_eq_getElem_cons hi, List.take_append_drop]
  have e2 : xs.take (i + 1) = xs.take i ++ [x] := by
    rw [List.take_add_one, hx]; rfl
  obtain ⟨E1, h1, h2⟩ := hs _ x _ E e hp
  exact ⟨E1, h1, h2.mono fun fl q => by
    cases fl with
    | nx E2 => rw [e2]; exact q
    | ct E2 => rw [e2]; exact q
    | bk E2 => exact q
    | rt a => exact q⟩
theorem wx_while {cc : ε → Rs Bool} {body : ε → Rs (Fl ε ρ)} {Q : Fl ε ρ → Prop} (P : ε → Prop) (μ : ε → Nat) (E : ε) (h0 : P E)
    (hs : ∀ E, P E → wx c (cc E) fun b => if b = true then wx c (body E) fun fl => match fl with
      | .nx E2 => P E2 ∧ μ E2 < μ E
      | .ct E2 => P E2 ∧ μ E2 < μ E
      | .bk E2 => Q (.nx E2)
      | .rt a => Q (.rt a) else Q (.nx E)) : wx c (dWhile cc body E) Q := by
  have key : ∀ (n : Nat) (E : ε), P E → μ E < n → (∃ fl, whileF cc body n E = .ok fl ∧ Q fl) ∨ whileF cc body n E = .exc c := by
    intro n
    induction n with
    | zero => exact fun E _ h => absurd h (Nat.not_lt_zero _)
    | succ n ih =>
      intro E hp hm
      have h1 := hs E hp
      unfold whileF
      cases e1 : cc E with
      | bad => rw [e1] at h1; exact h1.elim
      | exc e =>
        rw [e1] at h1
        have h1 : e = c := h1
        rw [h1]; exact .inr rfl
      | ok b =>
        rw [e1] at h1
        rw [Rs.bind_ok]
        cases b with
        | false => exact .inl ⟨_, rfl, h1⟩
        | true =>
          have h1 : wx c (body E) _ := h1
          rw [if_pos rfl]
          cases e2 : body E with
          | bad => rw [e2] at h1; exact h1.elim
          | exc e =>
            rw [e2] at h1
            have h1 : e = c := h1
            rw [h1]; exact .inr rfl
          | ok fl =>
            rw [e2] at h1
            rw [Rs.bind_ok]
            cases fl with
            | nx E2 => 
              have h1 : P E2 ∧ μ E2 < μ E := h1
              exact ih E2 h1.1 (by have := h1.2; omega)
            | ct E2 =>
              have h1 : P E2 ∧ μ E2 < μ E := h1
              exact ih E2 h1.1 (by have := h1.2; omega)
            | bk E2 => exact .inl ⟨_, rfl, h1⟩
            | rt a => exact .inl ⟨_, rfl, h1⟩
  rcases key (μ E + 1) E h0 (Nat.lt_succ_self _) with ⟨fl, e, q⟩ | e
  · rw [dWhile_eq _ e (by simp)]
    exact q
  · rw [dWhile_eq _ e (by simp)]
    rfl
/-- a comprehension whose first items are well and a later one raises -/
theorem lcR_exc {step : α → Rs (Option β)} : ∀ {xs : List α} , (∀ x ∈ xs, (∃ b, step x = .ok b) ∨ step x = .exc c) → (∃ x ∈ xs, step x = .exc c) → lcR step xs = .exc c
  | [], _, h => by obtain ⟨x, hx, _⟩ := h; cases hx
  | x :: xs, h, k => by
    unfold lcR
    rcases h x List.mem_cons_self with ⟨b, e⟩ | e
    · rw [e, Rs.bind_ok, lcR_exc (fun y hy => h y (List.mem_cons_of_mem _ hy)) (by
        obtain ⟨y, hy, ey⟩ := k
        rcases List.mem_cons.mp hy with rfl | hy
        · rw [e] at ey; cases ey
        · exact ⟨y, hy, ey⟩)]
      rfl
    · rw [e]; rfl
end
end Fx

/-! Fx31: comprehensions whose items may raise. -/
namespace L2
open PySem PySem.Spec PyProof.Rows
theorem note_like {u : Value} {e1 e2 : Env} (h : e1.frame = e2.frame) : noteFrame u e1 = noteFrame u e2 := by
  unfold noteFrame PySem.frameOf
  rw [h]
/-- out of a block (its names at C, its frame the def's own): the exception of a call reaches what the def wishes -/
theorem block_fails {X : Cx} {E : XK} {pins : List (Addr × Obj)} {σ : St} {H : Hp} {s s1 : Shared} {C : Addr} {ce : Env} {u : Value} (tk : Takes X fun cls d _ H => E cls d H) (hst : X.stack = X.env :: X.outer) (hf : X.env.frame = some X.env.locals)
    (I : Inv X pins σ H s) (f : FpOk X pins H C) (hC : ∃ m, s.heap.Ns C m) (hfC : C ∉ frs X.stack) (hce : ce.frame = X.env.frame) (hcl : ce.locals = C) (c : CX X.prog X.w X.stack H s E u s1) :
    notedBy (model X.prog X.w) X.A ce (CompFails (model X.prog X.w) X.A X.xe ce) u s1 := by
  obtain ⟨a, B, H', cls, d, rfl, fl, hok, ub, na, os, ag, hE⟩ := c
  obtain ⟨m, oC, es, ep, hoC, rC⟩ := hC
  have hfr : X.A.frames = some (X.env :: X.outer) := by rw [I.ok.frames, hst]
  unfold notedBy
  rw [note_like hce]
  rw [hst] at fl
  refine HandSPX.looks_onZ Zc.steady hfr hf fl fun h2 hh up2 => ?_
  have bC : B.get? C = some oC := ub.keep C oC hoC f.1 hfC
  have h2C : h2.get? C = some oC := hh.1 C oC bC
  refine ⟨m, ?_, fun h' m' _ sb => ?_⟩
  · rw [hcl]
    exact ⟨oC, es, ep, h2C, rC⟩
  rw [hcl] at sb
  have held : HandSPX.HeldZ (PySem.W.hideAll B [C]) (X.env :: X.outer) a (Zc cls d) X.env.locals h' := by
    obtain ⟨g1, g2, g3, oe, vs, T, oT, ts, he, hz, hd, h1, hnT, hTe, hT, hdT, h3⟩ := hh
    have none' : ∀ b, B.get? b = none → (PySem.W.hideAll B [C]).get? b = none := fun b hb => by
      cases q : (PySem.W.hideAll B [C]).get? b with
      | none => rfl
      | some o =>
        have z := PySem.W.of_hideAll _ q
        rw [hb] at z; cases z
    refine ⟨fun b o e => ?_, none' a g2, ?_, oe, vs, T, oT, ts, (sb.2 a fun z => ?_).trans he, hz, hd, h1, none' T hnT, hTe, (sb.2 T fun z => ?_).trans hT, hdT, h3⟩
    · have hb : b ≠ C := fun z => by
        rw [z, PySem.W.hideAll_none _ (List.mem_singleton.mpr rfl)] at e
        cases e
      exact (sb.2 b hb).trans (g1 b o (PySem.W.of_hideAll _ e))
    · have g4 := funFrames_none (B := PySem.W.hideAll B [C]) g3 fun L hL => none' L (by
        obtain ⟨hq, _⟩ := g3.mem hL
        exact hq)
      have key : ∀ l : List Env, (∀ L ∈ frs l, L ≠ C) → h2.FunFrames (PySem.W.hideAll B [C]) l → h'.FunFrames (PySem.W.hideAll B [C]) l := by
        intro l
        induction l with
        | nil => exact fun _ _ => trivial
        | cons e0 l ih =>
          rintro hL ⟨q1, ⟨L, o, q2, q3, q4, q5⟩, q6⟩
          exact ⟨q1, ⟨L, o, q2, q3, (sb.2 L (hL L (List.mem_filterMap.mpr ⟨e0, List.mem_cons_self, q2⟩))).trans q4, q5⟩, ih (fun L' h => hL L' (by
            obtain ⟨e', he', q⟩ := List.mem_filterMap.mp h
            exact List.mem_filterMap.mpr ⟨e', List.mem_cons_of_mem _ he', q⟩)) q6⟩
      exact key _ (fun L hL z => hfC (by rw [hst, ← z]; exact hL)) g4
    · rw [z, bC] at g2; cases g2
    · rw [z, bC] at hnT; cases hnT
  obtain ⟨_, _, _, oe, vs, T, oT, ts, he, hz, hd, h1, _⟩ := id held
  unfold PySem.passOn
  refine wpAny_bind (wpAny_field he hd h1 ?_)
  rw [if_neg (show ¬ ((Value.ref T == Value.none) = true) from by simp)]
  have fin : wpAny (model X.prog X.w) X.A (setFlight (.ref a) ce.frame) (fun _ s4 => wpAny (model X.prog X.w) X.A (throw (.ref a) : Sem Value) (fun _ _ => False) X.xe s4) X.xe { s1 with heap := h' } := by
    rw [hce, hf]
    refine HandSPX.setFlight_onZ held fun h3 hh3 up3 => wpAny_throw (tk _ _ ?_)
    obtain ⟨G, g1, g2⟩ := restrict h3 fun b => ((PySem.W.hideAll B [C]).get? b).isSome || decide (b ∈ frs X.stack)
    have inB : ∀ b o, b ≠ C → B.get? b = some o → G.get? b = some o := fun b o hb e => by
      have e2 := PySem.W.hideAll_get [C] e (by simpa using hb)
      rw [g1 b (by simp [e2])]
      exact hh3.1 b o e2
    have onS : ∀ b, b ∈ frs X.stack → G.get? b = h3.get? b := fun b hb => g1 b (by simp [hb])
    have back : ∀ b o, G.get? b = some o → h3.get? b = some o ∧ (((PySem.W.hideAll B [C]).get? b).isSome = true ∨ b ∈ frs X.stack) := fun b o e => by
      cases q : (((PySem.W.hideAll B [C]).get? b).isSome || decide (b ∈ frs X.stack)) with
      | false => rw [g2 b q] at e; cases e
      | true =>
        rw [g1 b q] at e
        exact ⟨e, by simpa [Bool.or_eq_true] using q⟩
    have slots : ∀ b o, s.heap.get? b = some o → b ∈ frs X.stack → ∃ sl, G.get? b = some { o with slots := sl } := fun b o e hb => by
      have hnf : ∀ vs, o.data ≠ .fields vs := by
        obtain ⟨_, o', e', q⟩ := I.stack.mem hb
        rw [e] at e'; cases e'
        exact q
      obtain ⟨sl, q⟩ := ub.slot b o e hb
      obtain ⟨sl2, q2⟩ := up2 b _ q hnf
      have q3 : h'.get? b = some { o with slots := sl2 } := (sb.2 b fun z => hfC (z ▸ hb)).trans q2
      obtain ⟨sl3, q4⟩ := up3 b _ q3 hnf
      exact ⟨sl3, by rw [onS b hb]; exact q4⟩
    have nC : H' C = none := ub.free C oC hoC f.1
    refine ⟨a, PySem.W.hideAll B [C], { s with heap := G, gens := s1.gens, drawn := s1.drawn, toks := s1.toks }, pins, σ, H', cls, d, rfl, ?_, fun b o e hb => ?_, Heap.UpToSlots.of_keeps fun b o e => (back b o e).1, .inr (.inr (by rw [hst]; exact hh3)), na, os, ag, hE⟩
    · refine I.call (ch := [C]) ⟨fun b o e n hb hc => inB b o (by simpa using hc) (ub.keep b o e n hb), fun b o e n hb hc => slots b o e hb, fun b o e n hc => ub.free b o e n, fun b o e hc => ?_, ub.tups, ub.frzs, ub.tbls⟩ (fun b v e => ?_) ag (fun b hb => ?_)
      · by_cases hb : b ∈ frs X.stack
        · obtain ⟨sl, q⟩ := slots b o e hb
          exact ⟨_, q⟩
        · obtain ⟨o', q⟩ := ub.there b o e hb
          exact ⟨o', inB b o' (by simpa using hc) q⟩
      · refine (hok b v e).stay (fun c w hc q => inB c w ?_ q) (fun _ q => q) fun _ _ q => q
        rcases hc with z | z
        · intro y
          rw [← z, y, nC] at e; cases e
        · intro y
          rw [← y, z] at nC; cases nC
      · have e : b = C := by simpa using hb
        rw [e]
        exact ⟨f.2.2.2.1, f.2.1, f.2.2.2.2.1, f.2.2.2.2.2⟩
    · obtain ⟨e', q⟩ := back b o e
      rcases q with q | q
      · obtain ⟨o', q⟩ := Option.isSome_iff_exists.mp q
        have z := hh3.1 b o' q
        rw [e'] at z; cases z
        exact q
      · exact absurd q hb
  first
    | exact wpAny_bind (wpAny_pure (wpAny_bind fin))
    | exact wpAny_bind fin

/-- a block in which an item may raise -/
theorem pe_lcX {X : Cx} {E : XK} {elt tg iter : Expr} {ifs : List Expr} {scope : Scope} {own : List (Str × Nat)} {pos : Pos} {wi : TI} {g : TG} {tt : TT} {te : TE} (tk : Takes X fun cls d _ H => E cls d H) (hst : X.stack = X.env :: X.outer) (hf : X.env.frame = some X.env.locals)
    (hc : X.calm = true) (hN : X.N.Nodup) (hi : PI X tg iter wi) (ok : BlkOk X.N X.env.scope scope own)
    (hg : ∀ (s : Shared) (H : Hp) (C : Addr) (cl : List (Str × Addr)) (fp : List Addr), PG (X.blk s H scope (compEnvC scope cl C X.env) fp) tg g)
    (ht : ∀ (s : Shared) (H : Hp) (C : Addr) (cl : List (Str × Addr)) (fp : List Addr), PTs (X.blk s H scope (compEnvC scope cl C X.env) fp) ifs tt)
    (he : ∀ (s : Shared) (H : Hp) (C : Addr) (cl : List (Str × Addr)) (fp : List Addr) (pn : List (Addr × Obj)) (xe : Value → Shared → Prop), Passes (CX X.prog X.w) ((X.blk s H scope (compEnvC scope cl C X.env) fp).tr pn xe) E → PE ((X.blk s H scope (compEnvC scope cl C X.env) fp).tr pn xe) elt te)
    (hs : ∀ x, foldedSetIterable iter X.env x = pure x := by intro _; rfl) :
    PE X (.ListComp elt [⟨tg, iter, ifs, 0⟩] scope pos) (tLc wi g tt te (own.map (·.2))) := by
  refine ⟨fun pins s σ H Q I h => ?_⟩
  rw [eval_ListComp]
  have hfree : ∀ y ∈ scope.names, y.2 = .free → ∃ c, X.env.cells.lookup y.1 = some c := fun y hy e => (ok.free y hy e).elim (fun k => I.ok.has _ (.inl k)) fun k => I.ok.has _ (.inr k)
  refine comprehension_at (use := none) rfl hs (closure_ok hfree) ok.kind (fun y hy e => by rw [ok.uniq y hy, e]) (thn (hi.run pins s σ H _ I h) fun _ s1 hx => thn hx fun _ s2 hy => ?_)
  obtain ⟨it, fp, tn, J, H2, rfl, I2, T, st2, f2, q⟩ := hy
  refine wpAny_newObj_type (newEnv_comp ?_) (by show 0 ≤ sizeLine; decide)
  generalize hD : s2.heap.objs.size = D
  have nD : H2 D = none := I2.hok.fresh (Nat.le_of_eq hD)
  obtain ⟨W, ⟨m0, w0⟩, turn⟩ := q D nD
  generalize hs3 : ({ s2 with heap := s2.heap.push { cls := .type "list", data := .seq ([] : List Value).toArray } } : Shared) = s3
  have h3 : s3.heap = s2.heap.push { cls := .type "list", data := .seq ([] : List Value).toArray } := by rw [← hs3]
  have old3 : ∀ b o, s2.heap.get? b = some o → s3.heap.get? b = some o := fun b o e => by rw [h3]; exact Heap.get?_push_of_some _ e
  have I3 : Inv X pins σ (upd H2 D (.lst [])) s3 := by
    rw [← hs3]
    exact I2.laid (t' := s2.toks) (fun b o e => Heap.get?_push_of_some _ e) (Nat.le_of_eq hD) ⟨Nat.zero_le _, [], 0, .nil, by rw [← hD]; exact Heap.get?_push_size _ rfl⟩
  have f3 : ∀ b ∈ fp, FpOk X pins (upd H2 D (.lst [])) b ∧ b < s3.heap.objs.size := fun b hb => by
    obtain ⟨o, e, _⟩ := T.obj _ _ st2 b hb
    have lt := Heap.lt_size e
    exact ⟨⟨by rw [upd_ne (by rw [← hD]; exact Nat.ne_of_lt lt)]; exact (f2 b hb).1, (f2 b hb).2⟩, by rw [h3, Heap.size_push]; exact Nat.lt_succ_of_lt lt⟩
  have st3 : tn 0 s3.heap := T.keep _ _ _ st2 fun b _ o e => old3 b o e
  have I4 := block_start I3 ok hN f3
  have pg := hg s3 (upd H2 D (.lst [])) s3.heap.objs.size (cellsFrom (s3.heap.objs.size + 1) scope.names (cloFrom X.env.cells scope.names [])) fp
  have pt := ht s3 (upd H2 D (.lst [])) s3.heap.objs.size (cellsFrom (s3.heap.objs.size + 1) scope.names (cloFrom X.env.cells scope.names [])) fp
  have pe := he s3 (upd H2 D (.lst [])) s3.heap.objs.size (cellsFrom (s3.heap.objs.size + 1) scope.names (cloFrom X.env.cells scope.names [])) fp
  show codeAny _ _ (.compStart (.ListComp elt [⟨tg, iter, ifs, 0⟩] scope pos) 0 (.ref it) (.ref D) (compEnvC scope (cellsFrom (s3.heap.objs.size + 1) scope.names (cloFrom X.env.cells scope.names [])) s3.heap.objs.size X.env))
    (compEnds (model X.prog X.w) X.A X.xe none _ (.ref D) (compEnvC scope (cellsFrom (s3.heap.objs.size + 1) scope.names (cloFrom X.env.cells scope.names [])) s3.heap.objs.size X.env)) { s3 with heap := pushCells (s3.heap.push { cls := .type "dict", data := .dict #[] }) scope.names }
  have nfp : ∀ b ∈ fp, (upd H2 D (.lst [])) b = none := fun b hb => (f3 b hb).1.1
  generalize hce : compEnvC scope (cellsFrom (s3.heap.objs.size + 1) scope.names (cloFrom X.env.cells scope.names [])) s3.heap.objs.size X.env = ce at I4 pg pt pe ⊢
  have cL : ce.locals = s3.heap.objs.size := by subst hce; rfl
  have cF : ce.frame = X.env.frame := by subst hce; rfl
  generalize hH3 : upd H2 D (.lst []) = H3 at I3 I4 pg pt pe w0 nfp f3
  generalize hs4 : ({ s3 with heap := pushCells (s3.heap.push { cls := .type "dict", data := .dict #[] }) scope.names } : Shared) = s4 at I4 ⊢
  have st4 : tn 0 s4.heap := T.keep _ _ _ st3 fun b _ o e => by rw [← hs4]; exact pushCells_keeps _ _ _ _ (Heap.get?_push_of_some _ e)
  -- the block's state as the def's own
  have up : ∀ {pn : List (Addr × Obj)} {σ' : St} {H' : Hp} {s' : Shared}, Inv (X.blk s3 H3 scope ce fp) pn σ' H' s' → Inv X pins σ H' s' ∧ H' s3.heap.objs.size = none ∧ ∃ m, s'.heap.Ns s3.heap.objs.size m := fun {pn σ' H' s'} J' => by
    refine ⟨I3.call' (ch := fp) J'.os J'.base J'.hok J'.bare fun b hb => ⟨(f3 b hb).1.2.2.2.1, (f3 b hb).1.2.1, (f3 b hb).1.2.2.2.2.1, (f3 b hb).1.2.2.2.2.2⟩, ?_, ?_⟩
    · have z : H' ce.locals = none := J'.free
      rwa [cL] at z
    · obtain ⟨m, hn, _⟩ := J'.loc
      have hn : s'.heap.Ns ce.locals m := hn
      rw [cL] at hn
      exact ⟨m, hn⟩
  have stat : ∀ {σ' : St} {H' : Hp} {s' : Shared}, Inv (X.blk s3 H3 scope ce fp) [] σ' H' s' → (∀ b ∈ fp, H' b = none) → ∀ b ∈ fp, FpOk (X.blk s3 H3 scope ce fp) [] H' b := fun {σ' H' s'} J' hn b hb =>
    ⟨hn b hb, (J'.ok.exf b hb).1, J'.ok.exfs b hb, .inl hb, fun x c e => (J'.ok.exf b hb).2 x c e, fun p hp => absurd (show p ∈ ([] : List (Addr × Obj)) ++ [] from hp) (by simp)⟩
  have loop : codeAny (model X.prog X.w) X.A (.compLoop (.ListComp elt [⟨tg, iter, ifs, 0⟩] scope pos) 0 (.ref it) (.ref D) ce) (compEnds (model X.prog X.w) X.A X.xe none (fun u s' => ∃ v H', Inv X pins σ H' s' ∧ RelV v u ∧ Q v H') (.ref D) ce) s4 := by
    refine compLoop_any (fun n s' => ∃ i H', Inv (X.blk s3 H3 scope ce fp) [] (wipe σ (own.map (·.2))) H' s' ∧ tn i s'.heap ∧ (∀ b ∈ fp, H' b = none) ∧ W i n H') ?_ m0 ⟨0, H3, I4, st4, nfp, w0⟩
    rintro n s5 ⟨i, H5, I5, st5, n5, w5⟩
    rcases turn i n H5 w5 with ⟨stop, qq⟩ | ⟨go, Nx, hNx, step⟩
    · refine thnF (T.done (X.blk s3 H3 scope ce fp) rfl rfl rfl hc i [] s5 _ H5 (fun _ _ => False) I5 (stat I5 n5) st5 stop) fun r s6 ⟨hr, I6⟩ => ?_
      subst hr
      obtain ⟨I7, nC, m, hn⟩ := up I6
      obtain ⟨z0, z1, z2, z3, z4, z5⟩ := I3.fpOk (Nat.le_refl _) nC
      refine ⟨m, by rw [cL]; exact hn, fun h'' sb => ⟨.ref D, H5, I7.turned (t' := s6.toks) (fun b o hb e => (sb.2 b (by rw [cL]; exact hb)).trans e) z0 z1 z3 z4 z5, rfl, qq⟩⟩
    · refine thnF (T.item (X.blk s3 H3 scope ce fp) rfl rfl rfl hc i [] s5 _ H5 (fun _ _ => False) I5 (stat I5 n5) st5 go) fun r s6 ⟨u, hr, h6⟩ => ?_
      subst hr
      refine thnF h6 fun _ s7 ⟨x, H7, I7, r7, y7, st7, n7⟩ => ?_
      have J7 := I7.pinned (stat I7 n7) (T.obj _ _ st7)
      refine thnF (pg.run _ s7 _ H7 x u _ J7 r7 (step x H7 y7)) fun _ s8 ⟨σ8, H8, I8, hw8, q8⟩ => ?_
      refine thnF (pt.run _ s8 σ8 H8 _ I8 q8) fun b s9 ⟨H9, I9, q9⟩ => ?_
      have fin : ∀ {s' : Shared} {H' : Hp}, Inv (X.blk s3 H3 scope ce fp) ([] ++ pinsAt fp s7.heap) σ8 H' s' → Nx H' → ∃ m, m < n ∧ ∃ i H', Inv (X.blk s3 H3 scope ce fp) [] (wipe σ (own.map (·.2))) H' s' ∧ tn i s'.heap ∧ (∀ b ∈ fp, H' b = none) ∧ W i m H' := fun {s' H'} J' nx => by
        obtain ⟨m', hm, w'⟩ := hNx H' nx
        have stay : ∀ b ∈ fp, ∀ o, s7.heap.get? b = some o → s'.heap.get? b = some o ∧ H' b = none := fun b hb o e =>
          ⟨(J'.pin (b, o) (List.mem_append_right _ (List.mem_append_right _ (mem_pinsAt hb e)))).1, (J'.pin (b, o) (List.mem_append_right _ (List.mem_append_right _ (mem_pinsAt hb e)))).2.1⟩
        refine ⟨m', hm, i + 1, H', (J'.unpinned (pins := [])).weak (by rw [← hw8, wipe_length]) (fun j v e => ?_), T.keep _ _ _ st7 fun b hb o e => (stay b hb o e).1, fun b hb => ?_, w'⟩
        · rw [← hw8] at e
          exact (wipe_some e).1
        · obtain ⟨o, e, _⟩ := T.obj _ _ st7 b hb
          exact (stay b hb o e).2
      cases b with
      | false =>
        simp only [Bool.false_eq_true, if_false] at q9 ⊢
        exact fin I9 q9
      | true =>
        simp only [if_true] at q9 ⊢
        have pass : Passes (CX X.prog X.w) ((X.blk s3 H3 scope ce fp).tr ((X.blk s3 H3 scope ce fp).pn ++ ([] ++ pinsAt fp s7.heap)) (notedBy (model X.prog X.w) X.A ce (CompFails (model X.prog X.w) X.A X.xe ce))) E := fun pins' σ' H' s' u s'' J' c => by
          obtain ⟨K7, nC, hn⟩ := up (Inv.ofTry J' I9.ok)
          have nf : s3.heap.objs.size ∉ frs X.stack := fun z => by
            obtain ⟨_, o, e, _⟩ := I3.stack.mem z
            exact absurd (Heap.lt_size e) (Nat.lt_irrefl _)
          exact block_fails tk hst hf K7 (I3.fpOk (Nat.le_refl _) nC) hn nf cF cL c
        have run := (pe _ _ pass).run [] s9 σ8 H9 _ (I9.toTry _) q9
        refine wpAny_mono run (fun z s10 hz => ?_) (fun e s' h => h)
        obtain ⟨yv, H10, J10, r10, acc, hD10, hz10, nx⟩ := hz
        exact app_ok (X := X.blk s3 H3 scope ce fp) (J10.ofTry I9.ok) hD10 hz10 r10 fun s11 I11 => fin I11 nx
  exact codeAny_compStart_list loop (T.self X.A 0 _ _ _ st4 loop)
end L2
namespace Fx
open PySem PySem.Spec L2
variable [Tbs]
section
variable {ε ε1 ε2 α β : Type} {D : EnvD ε} {X : Cx} {K : PySem.W.Frag} {R : Str → Hp → Prop} {m mi : Md} {te : TE} {ra : Rp α} {rb : Rp β} {pos : Pos} {D1 : EnvD ε1} {D2 : EnvD ε2} {wi : TI} {g : TG} {tt : TT} {fi : ε → Rs (List α)} {we : ε → ε1} {st : ε1 → α → Option ε2} {ft : ε2 → Rs Bool} {fe : ε2 → Rs β} {is : List Nat} {elt tg iter : Expr} {ifs : List Expr} {scope : Scope} {own : List (Str × Nat)} {spos : Pos} {E : XK}
/-- a comprehension's parts, whose items may raise -/
structure LcX (E : XK) (D : EnvD ε) (X : Cx) (K : PySem.W.Frag) (R : Str → Hp → Prop) (m : Md) (elt tg iter : Expr) (ifs : List Expr) (scope : Scope) (own : List (Str × Nat)) (wi : TI) (g : TG) (tt : TT) (te : TE) (rb : Rp β) (f : ε → Rs (List β)) : Prop where
  hK : X.K = K
  hi : PI X tg iter wi
  ok : BlkOk X.N X.env.scope scope own
  hg : ∀ (s : Shared) (H : Hp) (C : Addr) (cl : List (Str × Addr)) (fp : List Addr), PG (X.blk s H scope (compEnvC scope cl C X.env) fp) tg g
  ht : ∀ (s : Shared) (H : Hp) (C : Addr) (cl : List (Str × Addr)) (fp : List Addr), PTs (X.blk s H scope (compEnvC scope cl C X.env) fp) ifs tt
  he : ∀ (s : Shared) (H : Hp) (C : Addr) (cl : List (Str × Addr)) (fp : List Addr) (pn : List (Addr × Obj)) (xe : Value → Shared → Prop), Passes (L2.CX X.prog X.w) ((X.blk s H scope (compEnvC scope cl C X.env) fp).tr pn xe) E → PE ((X.blk s H scope (compEnvC scope cl C X.env) fp).tr pn xe) elt te
  sem : ∀ (H : Hp) (O F : List Addr) (E : ε) (σ : L2.St), RelF D K H O F E σ → ∀ Q : VK,
    Good (f E) (fun ys => ∀ p ws H', Same H H' → H p = none → H' p = some (.lst ws) → ys.length ≤ sizeLine → Paired (rb.rp K (hidM m (p :: O) F H')) ys ws → Q (.ref p) H') (fun c => ∀ H', Same H H' → R c H') → tLc wi g tt te (own.map (·.2)) σ H Q
theorem lcX_mk (hm : m.1 = true) (hi : FI true D X K R mi tg iter wi ra fi) (ok : BlkOk X.N X.env.scope scope own) (hw : Wp D D1 (own.map (·.2)) we) (his : ∀ i ∈ is, i ∈ own.map (·.2))
    (hg : ∀ (s : Shared) (H : Hp) (C : Addr) (cl : List (Str × Addr)) (fp : List Addr), FG D1 D2 (X.blk s H scope (compEnvC scope cl C X.env) fp) K ra mi tg g st is)
    (ht : ∀ (s : Shared) (H : Hp) (C : Addr) (cl : List (Str × Addr)) (fp : List Addr), FTs D2 (X.blk s H scope (compEnvC scope cl C X.env) fp) K R ifs tt ft)
    (he : ∀ (s : Shared) (H : Hp) (C : Addr) (cl : List (Str × Addr)) (fp : List Addr) (pn : List (Addr × Obj)) (xe : Value → Shared → Prop), Passes (L2.CX X.prog X.w) ((X.blk s H scope (compEnvC scope cl C X.env) fp).tr pn xe) E → FE D2 ((X.blk s H scope (compEnvC scope cl C X.env) fp).tr pn xe) K R m elt te rb fe) : LcX E D X K R m elt tg iter ifs scope own wi g tt te rb (lcD fi we st ft fe) := by
  cases hi.hK
  exact ⟨rfl, hi.pi, ok, fun s H C cl fp => (hg s H C cl fp).pg, fun s H C cl fp => (ht s H C cl fp).pt, fun s H C cl fp pn xe ps => (he s H C cl fp pn xe ps).pe,
    lc_sem hm hi.sem hw (hg X.s_0 X.H_0 0 [] []).sem his (ht X.s_0 X.H_0 0 [] []).sem (he X.s_0 X.H_0 0 [] [] [] (fun _ _ => True) fun _ _ _ _ _ _ _ _ => trivial).sem⟩
theorem fe_lcX {f : ε → Rs (List β)} (tk : Takes X fun cls d _ H => E cls d H) (hst : X.stack = X.env :: X.outer) (hf : X.env.frame = some X.env.locals) (hc : X.calm = true) (hN : X.N.Nodup) (L : LcX E D X K R m elt tg iter ifs scope own wi g tt te rb f) (hs : ∀ x, foldedSetIterable iter X.env x = pure x := by intro _; rfl) :
    FE D X K R m (.ListComp elt [⟨tg, iter, ifs, 0⟩] scope pos) (tLc wi g tt te (own.map (·.2))) (rList rb) f := by
  cases L.hK
  exact ⟨rfl, pe_lcX tk hst hf hc hN L.hi L.ok L.hg L.ht L.he hs, fun H O F E σ I Q k => L.sem H O F E σ I Q (k.mono (fun ys _ k p ws H' e1 n1 h1 hz h2 => by
    have hp : p ∉ O ++ F := fun z => by
      obtain ⟨o, q⟩ := I.dom p z
      rw [n1] at q; cases q
    refine k _ H' e1 ⟨p, ws, rfl, ?_, hz, Paired.imp h2 fun _ _ => rb.mono (hid_sub fun q hq => ?_)⟩
    · unfold hidM
      rw [hid_out]
      · exact h1
      · intro z
        apply hp
        obtain ⟨a, b⟩ := m
        cases a <;> cases b <;> simp_all
    · obtain ⟨a, b⟩ := m
      cases a <;> cases b <;> simp_all) fun _ k => k)⟩

theorem fn_lcX {f : ε → Rs (List β)} (tk : Takes X fun cls d _ H => E cls d H) (hst : X.stack = X.env :: X.outer) (hf : X.env.frame = some X.env.locals) (hc : X.calm = true) (hN : X.N.Nodup) (L : LcX E D X K R mS elt tg iter ifs scope own wi g tt te rb f) (hs : ∀ x, foldedSetIterable iter X.env x = pure x := by intro _; rfl) :
    FN D X K R (.ListComp elt [⟨tg, iter, ifs, 0⟩] scope pos) (tLc wi g tt te (own.map (·.2))) (oList rb) f := by
  cases L.hK
  exact ⟨rfl, pe_lcX tk hst hf hc hN L.hi L.ok L.hg L.ht L.he hs, fun H O F E σ I Q k => L.sem H O F E σ I Q (k.mono (fun ys _ k p ws H' e1 n1 h1 hz h2 => k _ H' [p] e1 (fun q hq => by
      have : q = p := by simpa using hq
      rw [this]; exact n1) (List.nodup_cons.mpr ⟨by simp, List.nodup_nil⟩) (fun q hq => by
      have : q = p := by simpa using hq
      exact ⟨_, by rw [this]; exact h1⟩) ⟨p, ws, rfl, rfl, h1, hz, Paired.imp h2 fun _ _ => rb.mono (hid_sub fun q hq => by
        show q ∈ (p :: O) ++ F
        simp at hq ⊢
        rcases hq with h | h | h
        · exact .inr (.inl h)
        · exact .inr (.inr h)
        · exact .inl h)⟩) fun _ k => k)⟩

end
end Fx

/-! Fx32: isinstance of a kept exception, with a tuple of classes. -/
namespace Fx
open PySem PySem.Spec L2
variable [Tbs]
/-- what stands for one value only -/
inductive Onl : List V → List Value → Prop
  | nil : Onl [] []
  | cons {y : V} {u : Value} {ys : List V} {us : List Value} : (∀ z, RelV y z → z = u) → Onl ys us → Onl (y :: ys) (u :: us)
theorem Onl.eq : ∀ {ys : List V} {us zs : List Value}, Onl ys us → Vals ys zs → zs = us
  | _, _, _, .nil, .nil => rfl
  | _, _, _, .cons h t, .cons r q => by rw [h _ r, t.eq q]
def rIsKT (K : PySem.W.Frag) : List V → Hp → VK → Prop := fun xs H Q => ∃ (a D tp : Addr) (ys : List V) (us : List Value) (b : Bool), xs = [.ref a, .ref tp] ∧ H a = some (KeptO D a) ∧ ExcC K D ∧ H tp = some (.tup ys) ∧ Onl ys us ∧ PySem.W.kitAny K (.ref D) us = some b ∧ Q (.bl b) H
theorem call_isKT {X : Cx} : CallR X (.builtin "isinstance") (rIsKT X.K) := by
  intro pins s σ H xs us Q I r h
  obtain ⟨a, D, tp, ys, ws, b, rfl, hk, C, htp, only, e, q⟩ := h
  match us, r with
  | [_, _], .cons rx (.cons ry .nil) =>
    cases rx
    cases ry
    obtain ⟨⟨oe, get, zc, vs, dat⟩, _, _⟩ := I.hok a _ hk
    have inst : PySem.W.InstAt s.heap a oe D none := by
      cases oe
      obtain ⟨z1, z2⟩ := zc
      dsimp only at z1 z2 dat
      subst z1 z2 dat
      exact ⟨get, rfl, rfl, trivial⟩
    obtain ⟨_, its, rv, ot, eo, cls, n, dt⟩ := I.hok tp _ htp
    obtain rfl := only.eq rv
    obtain ⟨oc, od, odt, osl⟩ := ot
    dsimp only at cls dt
    subst cls dt
    have kit := PySem.W.handS_kitx_exc (x := a) (ox := oe) C.hg C.hk C.hs C.hd C.ha C.hn C.ht C.hm
    exact PySem.W.kia_tup kit I.kIn inst eo e (fun n => nomatch n) fun t => ⟨.bl b, H, I.kept (t' := t) (fun _ _ n => n), rfl, q⟩
def tNs : List V → TA
  | [] => tNil
  | y :: ys => tCons (tC y) (tNs ys)
theorem tNs_run {σ : L2.St} {H : Hp} : ∀ {ys : List V} {Q : List V → Hp → Prop}, Q ys H → tNs ys σ H Q
  | [], _, q => q
  | _ :: ys, Q, q => tNs_run (ys := ys) (Q := fun xs H1 => Q (_ :: xs) H1) q
def subL : List (Str → Option Bool) → Str → Option Bool
  | [], _ => some false
  | s :: r, c => match s c with
    | some true => some true
    | some false => subL r c
    | none => none
def KitL (K : PySem.W.Frag) (ca : Str → Option Addr) (ss : List (Str → Option Bool)) (us : List Value) : Prop := ∀ c C b, subL ss c = some b → ca c = some C → PySem.W.kitAny K (.ref C) us = some b
theorem kitL_nil {K : PySem.W.Frag} {ca : Str → Option Addr} : KitL K ca [] [] := fun _ _ _ h _ => h
theorem kitL_cons {K : PySem.W.Frag} {ca : Str → Option Addr} {s : Str → Option Bool} {u : Value} {ss : List (Str → Option Bool)} {us : List Value} (h : ∀ c C b, s c = some b → ca c = some C → PySem.W.kitOne K (.ref C) u = some b) (t : KitL K ca ss us) : KitL K ca (s :: ss) (u :: us) := fun c C b e hC => by
  unfold subL at e
  unfold PySem.W.kitAny
  cases q : s c with
  | none => rw [q] at e; cases e
  | some d =>
    rw [q] at e
    rw [h c C d q hC]
    cases d with
    | true => exact e
    | false => exact t c C b e hC
section
variable {ε α : Type} {D : EnvD ε} {X : Cx} {K : PySem.W.Frag} {R : Str → Hp → Prop} {ma m : Md} {e : Expr} {ta : TE} {pos : Pos}
theorem fe_isXT {ca : Str → Option Addr} {ss : List (Str → Option Bool)} {f : ε → Rs (Option Str)} {p p2 : Pos} {x1} {es : List Expr} {ys : List V} {us : List Value} (hy : PA X es (tNs ys)) (only : Onl ys us) (hl : ys.length ≤ sizeLine) (hE : ∀ c C, ca c = some C → ExcC X.K C)
    (hsub : KitL X.K ca ss us) (hg : Gl X "isinstance") (hm : X.mg "isinstance" = none) (ha : FE D X K R ma e ta (rX ca) f)
    (he : starEach (e :: [.Tuple es x1 p2]) X.env = (false, eval e X.env) :: starEach [.Tuple es x1 p2] X.env := by rfl) (he2 : starEach [.Tuple es x1 p2] X.env = (false, eval (.Tuple es x1 p2) X.env) :: starEach [] X.env := by rfl) (hpl : (backTo pos (starEach [.Tuple es x1 p2] X.env)).any (·.1) = false := by rfl) :
    FE D X K R m (.Call (.Name "isinstance" p) [e, .Tuple es x1 p2] [] pos) (tCB (rIsKT K) (tCons ta (tCons (tTup (tNs ys)) tNil))) rBool (d1 (fun x => x.bind (subL ss)) f) := by
  cases ha.hK
  refine ⟨rfl, pe_callB call_isKT hg hm PyProof.Rows.boot_isinstance (pa_cons ha.pe (pa_cons (pe_tup hy) pa_nil he2) he) (by decide) (by decide) he hpl, fun H O F E σ I Q kk => ?_⟩
  refine ha.sem H O F E σ I _ ((good_bind kk).mono (fun x _ kk v H1 e1 r1 => ?_) fun c kk => kk)
  cases x with
  | none => exact kk.elim
  | some c =>
    obtain ⟨C, a, h1, rfl, h3⟩ := r1
    cases q : subL ss c with
    | none =>
      have kk : Good (ofO (subL ss c)) _ _ := kk
      rw [q] at kk
      exact kk.elim
    | some b =>
      have kk : Good (ofO (subL ss c)) _ _ := kk
      rw [q] at kk
      have ka : H1 a = some (KeptO C a) := hidM_low.get _ _ h3 (fun ps z => by unfold KeptO at z; cases z)
      refine tNs_run ⟨hl, fun tp hp => ?_⟩
      have s := Fx.same_upd (o := .tup ys) hp
      exact ⟨a, C, tp, ys, us, b, rfl, s.get _ _ ka (fun ps z => by unfold KeptO at z; cases z), hE c C h1, upd_same, only, hsub c C b q h1, kk _ _ (e1.trans s) rfl⟩
end
end Fx

/-! Fx33: a row of an owned list of owned lists under a second name: x = L[e]; x[..] = ..; .. -/
namespace Fx
open PySem PySem.Spec L2
variable [Tbs]
section
variable {ε ε' ρ α β : Type} {D : EnvD ε} {X : Cx} {K : PySem.W.Frag} {R : Str → Hp → Prop} {rr : RetD ρ} {m : Md} {st : Stmt} {sts : List Stmt} {t u : TS} {te : TE} {e : Expr} {r : Rp α} {rb : Rp β} {pos pos' : Pos}
/-- slot j holds the n-th item of the list that slot i holds -/
def alD (D : EnvD ε) (i j : Nat) : EnvD (ε × Nat) where
  rel := fun K H O Ft E σ F => D.rel K H O Ft E.1 σ F ∧ ∃ a vs q, σ[i]? = some (some (.ref a)) ∧ a ∈ F ∧ H a = some (.lst vs) ∧ vs[E.2]? = some (.ref q) ∧ σ[j]? = some (some (.ref q))
  frame := fun ⟨h, a, vs, q, h1, h2, h3, h4, h5⟩ e1 e2 k => ⟨D.frame h e1 e2 k, a, vs, q, h1, h2, k a h2 _ h3 nt_lst, h4, h5⟩
theorem RelF.un {i j : Nat} {K : PySem.W.Frag} {H : Hp} {O F : List Addr} {E : ε × Nat} {σ : L2.St} (I : RelF (alD D i j) K H O F E σ) : RelF D K H O F E.1 σ := ⟨I.rel.1, I.nd, I.dj, I.dom, I.tab⟩
/-- what does not name the row -/
theorem fe_lift {i j : Nat} {f : ε → Rs α} (h : FE D X K R m e te r f) : FE (alD D i j) X K R m e te r (fun E => f E.1) :=
  ⟨h.hK, h.pe, fun H O F E σ I Q k => h.sem H O F E.1 σ I.un Q k⟩
def rowG (gt : ε → Option (List (List α))) : ε × Nat → Option (List α) := fun E => (gt E.1).bind fun xss => xss[E.2]?
def rowP (gt : ε → Option (List (List α))) (p : ε → Option (List (List α)) → ε) : ε × Nat → Option (List α) → ε × Nat := fun E x => (p E.1 ((gt E.1).map fun xss => match x with
  | some ys => xss.set E.2 ys
  | none => xss), E.2)
theorem ol_al {i j : Nat} {gt : ε → Option (List (List α))} {p : ε → Option (List (List α)) → ε} (L : Ln D D i (sO (oList2 r)) (sO (oList2 r)) gt p) : OLb false (alD D i j) j r (rowG gt) (rowP gt p) := by
  refine ⟨fun {K H O F E σ} I {xs} hx => ?_, fun z => nomatch z⟩
  obtain ⟨_, a, vs, q, h1, h2, h3, h4, h5⟩ := I.rel
  unfold rowG at hx
  cases eg : gt E.1 with
  | none => rw [eg] at hx; cases hx
  | some xss =>
    rw [eg] at hx
    have hx : xss[E.2]? = some xs := hx
    obtain ⟨a', qs, y0, y1, y2, y3, y4, y5, y6, y7, _⟩ := l2_at L I.un eg
    rw [h1] at y0
    cases y0
    have evs : vs = qs.map V.ref := HO.lst.inj (Option.some.inj (h3.symm.trans y1))
    subst evs
    obtain ⟨q', g1, ws, g2, g3, g4⟩ := Paired.get y6 hx
    have eq : q' = q := by
      rw [List.getElem?_map, g1] at h4
      exact V.ref.inj (Option.some.inj h4)
    subst eq
    refine ⟨q', ws, h5, g2, g3, y4 q' (List.mem_of_getElem? g1), g4, fun ys us hl hp => ?_⟩
    obtain ⟨s2, I2⟩ := y7 E.2 q' ys us g1 hl hp
    refine ⟨s2, ⟨⟨?_, a, qs.map V.ref, q', h1, h2, ?_, h4, h5⟩, I2.nd, I2.dj, I2.dom, I2.tab⟩⟩
    · have := I2.rel
      unfold rowP
      rw [eg]
      exact this
    · have : a ≠ q' := fun z => (List.nodup_cons.mp y5).1 (z ▸ List.mem_of_getElem? g1)
      rw [upd_ne this]
      exact h3
/-- statements that begin with the second name and end without -/
structure FSx (D' : EnvD ε') (D : EnvD ε) (X : Cx) (K : PySem.W.Frag) (R : Str → Hp → Prop) (rr : RetD ρ) (st : List Stmt) (t : TS) (f : ε' → Rs (Fl ε ρ)) : Prop where
  hK : X.K = K
  ps : PSs X st t
  sem : ∀ (H : Hp) (O F : List Addr) (E : ε') (σ : L2.St), RelF D' K H O F E σ → ∀ Dn : Ends, Good (f E) (FlPost D K rr O F H Dn) (fun c => ∀ H', Stab F H H' → R c H') → t Dn σ H
theorem fsx_end {i j : Nat} {g : ε → Rs (Fl ε ρ)} (h : FSs D X K R rr sts u g) : FSx (alD D i j) D X K R rr sts u (fun E => g E.1) :=
  ⟨h.hK, h.ps, fun H O F E σ I Dn k => h.sem H O F E.1 σ I.un Dn k⟩
def dSeqX (f : ε' → Rs (Fl ε' ρ)) (g : ε' → Rs (Fl ε ρ)) : ε' → Rs (Fl ε ρ) := fun E => (f E).bind fun fl => match fl with
  | .nx E1 => g E1
  | .rt a => .ok (.rt a)
  | _ => .bad
theorem fsx_cons {D' : EnvD ε'} {f : ε' → Rs (Fl ε' ρ)} {g : ε' → Rs (Fl ε ρ)} (h : FS D' X K R rr st t f) (hr : FSx D' D X K R rr sts u g) : FSx D' D X K R rr (st :: sts) (tSeq t u) (dSeqX f g) := by
  cases h.hK
  exact ⟨rfl, pss_cons h.ps hr.ps, fun H O F E σ I Dn k => h.sem H O F E σ I _ ((good_bind k).mono (fun fl _ k => by
    cases fl with
    | nx E1 => exact fun σ1 H1 F1 s1 I1 => hr.sem H1 O F1 E1 σ1 I1 Dn (Good.mono (show Good (g E1) _ _ from k) (fun fl _ q => q.step s1) fun c q H2 k2 => q H2 (s1.stab k2))
    | rt a => exact k
    | bk E1 => exact k.elim
    | ct E1 => exact k.elim) fun _ k => k)⟩
/-- x = L[e] -/
def dAlias (gt : ε → Option (List (List α))) (px : ε → Option β → ε) (fi : ε → Rs Int) (g : ε × Nat → Rs (Fl ε ρ)) : ε → Rs (Fl ε ρ) := fun E => (ofO (gt E)).bind fun xss => (fi E).bind fun i => (ofO (ixN xss.length i)).bind fun k => g (px E none, k)
theorem fss_alias {i j : Nat} {x y : Str} {px0 py spos : Pos} {ix : Expr} {ti : TE} {bb : Bool} {gt : ε → Option (List (List α))} {p : ε → Option (List (List α)) → ε} {gx : ε → Option β} {px : ε → Option β → ε} {fi : ε → Rs Int} {g : ε × Nat → Rs (Fl ε ρ)}
    (L : Ln D D i (sO (oList2 r)) (sO (oList2 r)) gt p) (Lx : Ln D D j (sS bb rb) (sS bb rb) gx px) (hN : X.N.Nodup) (hx : FE D X K R m ix ti rInt fi) (hr : FSx (alD D i j) D X K R rr sts u g) (hij : i ≠ j := by decide)
    (hj : X.N[j]? = some x := by rfl) (hlx : Loc X.env.scope x := by first | exact .inl rfl | exact .inr rfl) (hf : X.fn x = true ∨ X.env.scope.names.lookup x = some .local := by first | exact .inl rfl | exact .inr rfl)
    (hi : X.N[i]? = some y := by rfl) (hv : Vis X.env.scope y := by first | exact Or.inl rfl | exact Or.inr (Or.inl rfl) | exact Or.inr (Or.inr rfl)) (hd : (y == ("__debug__" : Str)) = false := by decide) (hcd : (y == ("__classdict__" : Str)) = false := by decide) (hpl : PlainIx ix := by intro _ _; rfl)
    (hs : swapsWith (.Subscript (.Name y py) ix spos) (some (.Name x px0)) pos.line X.env = pure false := by rfl) :
    FSs D X K R rr (.Assign [.Name x px0] (.Subscript (.Name y py) ix spos) pos :: sts) (tSeq (tAsg (tOp (rIxL K) (tVar i) ti) (gName j)) u) (dAlias gt px fi g) := by
  cases hx.hK
  refine ⟨rfl, pss_cons (ps_set hN hj hlx (pe_ix ix_list (pe_var hi hv hd hcd) hx.pe hpl) hs hf) hr.ps, fun H O F E σ I Dn k => ?_⟩
  have k := good_bind k
  cases eg : gt E with
  | none => rw [eg] at k; exact k.elim
  | some xss =>
    rw [eg] at k
    have k := good_bind (show Good ((fi E).bind _) _ _ from k)
    obtain ⟨a0, qs0, z0, _⟩ := l2_at L I eg
    refine ⟨.ref a0, z0, hx.sem H O F E σ I _ (k.mono (fun i1 _ k w H2 e2 r2 => ?_) fun c k H2 e2 => exS k H2 e2)⟩
    have I2 := I.same e2
    obtain ⟨a1, qs, y0, y1, y2, y3, y4, y5, y6, _⟩ := l2_at L I2 eg
    rw [z0] at y0
    cases y0
    have k := good_bind k
    cases ei : ixN xss.length i1 with
    | none => rw [ei] at k; exact k.elim
    | some kk =>
      rw [ei] at k
      obtain ⟨q, xs, g1, g2, g3, g4⟩ := atI_ref y6 ei
      refine ⟨a0, qs.map V.ref, i1, .ref q, rfl, r2, .inl (.inl y1), g3, ?_⟩
      have I3 := I2.put Lx sh_s (x := none) (w := some (.ref q)) ⟨rfl, fun _ z => nomatch z⟩
      have hjl : j < σ.length := by
        obtain ⟨_, _, _, h, _⟩ := Lx.at I
        exact (List.getElem?_eq_some_iff.mp h).1
      refine hr.sem H2 O F (px E none, kk) _ ⟨⟨I3.rel, a0, qs.map V.ref, q, ?_, y3, y1, ?_, List.getElem?_set_self hjl⟩, I3.nd, I3.dj, I3.dom, I3.tab⟩ Dn ((show Good (g (px E none, kk)) _ _ from k).mono (fun fl _ q => q.step (Step.same e2)) fun c q H3 k3 => q H3 ((Step.same e2).stab k3))
      · rw [List.getElem?_set_ne (fun z => hij z.symm)]; exact z0
      · rw [List.getElem?_map, g1]; rfl
end
end Fx

/-! Fx34: loops over owned lists (as they are at each turn). -/
namespace Fx
open PySem PySem.Spec L2
variable [Tbs]
section
variable {ε ε' ρ α β : Type} {D : EnvD ε} {D' : EnvD ε'} {X : Cx} {K : PySem.W.Frag} {R : Str → Hp → Prop} {rr : RetD ρ} {m : Md} {st : Stmt} {sts : List Stmt} {t u : TS} {te : TE} {e : Expr} {r : Rp α} {rb : Rp β} {pos pos' : Pos}
/-- slot i holds w -/
def pinD (D : EnvD ε) (i : Nat) (w : V) : EnvD ε where
  rel := fun K H O Ft E σ F => D.rel K H O Ft E σ F ∧ σ[i]? = some (some w)
  frame := fun ⟨h, h1⟩ e1 e2 k => ⟨D.frame h e1 e2 k, h1⟩
theorem RelF.unpin {i : Nat} {w : V} {K : PySem.W.Frag} {H : Hp} {O F : List Addr} {E : ε} {σ : L2.St} (I : RelF (pinD D i w) K H O F E σ) : RelF D K H O F E σ := ⟨I.rel.1, I.nd, I.dj, I.dom, I.tab⟩
theorem RelF.pin {i : Nat} {w : V} {K : PySem.W.Frag} {H : Hp} {O F : List Addr} {E : ε} {σ : L2.St} (I : RelF D K H O F E σ) (h : σ[i]? = some (some w)) : RelF (pinD D i w) K H O F E σ := ⟨⟨I.rel, h⟩, I.nd, I.dj, I.dom, I.tab⟩
theorem ln_pin {i k : Nat} {w : V} {s : Slot α} {s' : Slot β} {g : ε → Option α} {p : ε → Option β → ε'} (L : Ln D D' k s s' g p) (h : k ≠ i := by decide) : Ln (pinD D i w) (pinD D' i w) k s s' g p := ⟨fun ⟨hr, h1⟩ => by
  obtain ⟨Fa, F1, Fb, w0, q1, q2, q3, q4⟩ := L.get hr
  exact ⟨Fa, F1, Fb, w0, q1, q2, q3, fun H' Ft' e1 e2 k x' w' F1' hs => ⟨q4 H' Ft' e1 e2 k x' w' F1' hs, by rw [List.getElem?_set_ne h]; exact h1⟩⟩⟩
theorem ol_pin {bo : Bool} {i k : Nat} {w : V} {gt : ε → Option (List α)} {pt : ε → Option (List α) → ε} (L : OLb bo D k r gt pt) : OLb false (pinD D i w) k r gt pt := ⟨fun {K H O F E σ} I {xs} hx => by
  obtain ⟨q, vs, y0, y1, y2, y3, y4, y5⟩ := L.lst I.unpin hx
  exact ⟨q, vs, y0, y1, y2, y3, y4, fun ys ws hl hp => by
    obtain ⟨s2, I2⟩ := y5 ys ws hl hp
    exact ⟨s2, I2.pin I.rel.2⟩⟩, fun z => nomatch z⟩
def forLv (gt : ε → Option (List α)) (sg : ε → α → Option ε) (body : ε → Rs (Fl ε ρ)) : Nat → Nat → ε → Rs (Fl ε ρ)
  | 0, _, _ => .bad
  | n + 1, i, E => (ofO (gt E)).bind fun xs => match xs[i]? with
    | none => .ok (.nx E)
    | some x => (ofO (sg E x)).bind fun E1 => (body E1).bind fun fl => match fl with
      | .nx E2 => forLv gt sg body n (i + 1) E2
      | .ct E2 => forLv gt sg body n (i + 1) E2
      | .bk E2 => .ok (.nx E2)
      | .rt a => .ok (.rt a)
open Classical in
noncomputable def dForL (gt : ε → Option (List α)) (sg : ε → α → Option ε) (body : ε → Rs (Fl ε ρ)) : ε → Rs (Fl ε ρ) := fun E => if h : ∃ n, forLv gt sg body n 0 E ≠ .bad then forLv gt sg body (Classical.choose h) 0 E else .bad
theorem forLv_more {gt : ε → Option (List α)} {sg : ε → α → Option ε} {body : ε → Rs (Fl ε ρ)} : ∀ (n k i : Nat) (E : ε), forLv gt sg body n i E ≠ .bad → forLv gt sg body (n + k) i E = forLv gt sg body n i E
  | 0, k, i, E, h => absurd rfl h
  | n + 1, k, i, E, h => by
    rw [show n + 1 + k = (n + k) + 1 by omega]
    unfold forLv at h ⊢
    cases hc : gt E with
    | none => rfl
    | some xs =>
      rw [hc] at h
      simp only [ofO_some, Rs.bind_ok] at h ⊢
      cases hx : xs[i]? with
      | none => rfl
      | some x =>
        rw [hx] at h
        dsimp only at h ⊢
        cases hs : sg E x with
        | none => rfl
        | some E1 =>
          rw [hs] at h
          simp only [ofO_some, Rs.bind_ok] at h ⊢
          cases hb : body E1 with
          | ok fl =>
            rw [hb] at h
            cases fl with
            | nx E2 => exact forLv_more n k (i + 1) E2 h
            | ct E2 => exact forLv_more n k (i + 1) E2 h
            | bk E2 => rfl
            | rt a => rfl
          | exc c => rfl
          | bad => rfl
theorem dForL_eq {gt : ε → Option (List α)} {sg : ε → α → Option ε} {body : ε → Rs (Fl ε ρ)} {E : ε} {x : Rs (Fl ε ρ)} (n : Nat) (h : forLv gt sg body n 0 E = x) (hx : x ≠ .bad) : dForL gt sg body E = x := by
  have ex : ∃ n, forLv gt sg body n 0 E ≠ .bad := ⟨n, by rw [h]; exact hx⟩
  unfold dForL
  rw [dif_pos ex]
  have h2 := Classical.choose_spec ex
  have a := forLv_more (Classical.choose ex) n 0 E h2
  have b := forLv_more n (Classical.choose ex) 0 E (by rw [h]; exact hx)
  rw [← a, Nat.add_comm, b, h]
/-- the list stays: by the part that is done -/
theorem wp_forLL {gt : ε → Option (List α)} {sg : ε → α → Option ε} {body : ε → Rs (Fl ε ρ)} {Q : Fl ε ρ → Prop} (xs : List α) (P : List α → ε → Prop) (E : ε) (h0 : P [] E) (hg : ∀ d E, P d E → gt E = some xs)
    (hs : ∀ d x r E, xs = d ++ x :: r → P d E → ∃ E1, sg E x = some E1 ∧ wp (body E1) fun fl => match fl with
      | .nx E2 => P (d ++ [x]) E2
      | .ct E2 => P (d ++ [x]) E2
      | .bk E2 => Q (.nx E2)
      | .rt a => Q (.rt a)) (hd : ∀ E, P xs E → Q (.nx E)) : wp (dForL gt sg body E) Q := by
  have key : ∀ (r d : List α) (E : ε), xs = d ++ r → P d E → ∃ fl, forLv gt sg body (r.length + 1) d.length E = .ok fl ∧ Q fl := by
    intro r
    induction r with
    | nil =>
      intro d E e hp
      unfold forLv
      rw [hg d E hp, ofO_some, Rs.bind_ok, e, List.append_nil, List.getElem?_eq_none (Nat.le_refl _)]
      rw [List.append_nil] at e
      exact ⟨_, rfl, hd E (e ▸ hp)⟩
    | cons x r ih =>
      intro d E e hp
      obtain ⟨E1, e1, h1⟩ := hs d x r E e hp
      unfold forLv
      have hx : xs[d.length]? = some x := by rw [e, List.getElem?_append_right (Nat.le_refl _), Nat.sub_self]; rfl
      rw [hg d E hp, ofO_some, Rs.bind_ok, hx]
      dsimp only
      rw [e1, ofO_some, Rs.bind_ok]
      obtain ⟨fl, e2, h2⟩ := h1.of
      rw [e2, Rs.bind_ok]
      have nxt : ∀ E2, P (d ++ [x]) E2 → ∃ fl, forLv gt sg body (r.length + 1) (d.length + 1) E2 = .ok fl ∧ Q fl := fun E2 h => by
        have := ih (d ++ [x]) E2 (by rw [e]; simp) h
        rw [List.length_append] at this
        exact this
      cases fl with
      | nx E2 => exact nxt E2 h2
      | ct E2 => exact nxt E2 h2
      | bk E2 => exact ⟨_, rfl, h2⟩
      | rt a => exact ⟨_, rfl, h2⟩
  obtain ⟨fl, e, q⟩ := key xs [] E rfl h0
  rw [dForL_eq _ e (by simp)]
  exact q
theorem fs_forL {bo : Bool} {tg : Expr} {body : List Stmt} {g : TG} {tb : TS} {gt : ε → Option (List α)} {pt : ε → Option (List α) → ε} {sg : ε → α → Option ε} {fb : ε → Rs (Fl ε ρ)} {is : List Nat} {i : Nat} {y : Str} {pl : Pos} (hp : PassesOwn (model X.prog X.w) X.A X.env X.xe) (hc : X.calm = true)
    (L : OLb bo D i r gt pt) (hg : ∀ w, FG (pinD D i w) (pinD D i w) X K r mS tg g sg is) (hb : ∀ w, FSs (pinD D i w) X K R rr body tb fb)
    (hNy : X.N[i]? = some y := by rfl) (hv : Vis X.env.scope y := by first | exact Or.inl rfl | exact Or.inr (Or.inl rfl) | exact Or.inr (Or.inr rfl)) (hd : (y == ("__debug__" : Str)) = false := by decide) (hcd : (y == ("__classdict__" : Str)) = false := by decide) :
    FS D X K R rr (.For tg (.Name y pl) body [] pos) (tFor (iList K (tVar i)) g tb) (dForL (ρ := ρ) gt sg fb) := by
  cases (hg .non).hK
  refine ⟨rfl, ps_for hp hc (pi_list (pe_var hNy hv hd hcd)) (hg .non).pg (hb .non).ps (fun _ => rfl), fun H O F E σ I Dn k => ?_⟩
  unfold dForL at k
  split at k
  · rename_i ex
    have h2 := Classical.choose_spec ex
    generalize Classical.choose ex = n0 at k h2
    -- the list at the beginning
    obtain ⟨n1, rfl⟩ : ∃ n1, n0 = n1 + 1 := by
      cases n0 with
      | zero => exact absurd rfl h2
      | succ n => exact ⟨n, rfl⟩
    cases eg : gt E with
    | none =>
      unfold forLv at k
      rw [eg] at k
      exact k.elim
    | some xs0 =>
      obtain ⟨q, vs, y0, y1, y2, y3, y4, _⟩ := L.lst I eg
      refine ⟨.ref q, y0, q, rfl, ⟨vs, .inl (.inl y1)⟩, ?_⟩
      refine ⟨fun k mm σ2 H2 => ∃ F2 E2, Step F H F2 H2 ∧ RelF (pinD D i (.ref q)) X.K H2 O F2 E2 σ2 ∧ Good (forLv gt sg fb mm k E2) (FlPost D X.K rr O F2 H2 Dn) (fun c => ∀ H', Stab F2 H2 H' → R c H'), ⟨n1 + 1, F, E, Step.refl, I.pin y0, k⟩, ?_⟩
      rintro k mm σ2 H2 ⟨F2, E2, s2, I2, kk⟩
      cases mm with
      | zero => exact kk.elim
      | succ mm =>
        unfold forLv at kk
        have kk := good_bind kk
        cases eg2 : gt E2 with
        | none => rw [eg2] at kk; exact kk.elim
        | some xs =>
          rw [eg2] at kk
          obtain ⟨q', vs', z0, z1, z2, z3, z4, _⟩ := L.lst I2.unpin eg2
          rw [I2.rel.2] at z0
          cases z0
          have hsq : SqL X.K H2 q vs' := .inl (.inl z1)
          have kk : Good (match xs[k]? with
            | none => .ok (.nx E2)
            | some x => (ofO (sg E2 x)).bind fun E1 => (fb E1).bind fun fl => match fl with
              | .nx E2 => forLv gt sg fb mm (k + 1) E2
              | .ct E2 => forLv gt sg fb mm (k + 1) E2
              | .bk E2 => .ok (.nx E2)
              | .rt a => .ok (.rt a)) (FlPost D X.K rr O F2 H2 Dn) (fun c => ∀ H', Stab F2 H2 H' → R c H') := kk
          cases hx : xs[k]? with
          | none =>
            rw [hx] at kk
            have hl : vs'.length ≤ k := by
              rw [← Paired.len z4]
              exact List.getElem?_eq_none_iff.mp hx
            exact .inl ⟨⟨vs', hsq, hl⟩, (show FlPost D X.K rr O F2 H2 Dn (.nx E2) from kk) σ2 H2 F2 Step.refl I2.unpin⟩
          | some x =>
            rw [hx] at kk
            obtain ⟨w, g1, g2⟩ := Paired.get z4 hx
            refine .inr ⟨⟨vs', w, hsq, g1⟩, fun σ3 H3 => ∃ F3 E3, Step F H F3 H3 ∧ RelF (pinD D i (.ref q)) X.K H3 O F3 E3 σ3 ∧ Good (forLv gt sg fb mm (k + 1) E3) (FlPost D X.K rr O F3 H3 Dn) (fun c => ∀ H', Stab F3 H3 H' → R c H'), fun σ3 H3 h3 => ⟨mm, Nat.lt_succ_self _, h3⟩, fun v H3 yl => ?_⟩
            obtain ⟨rfl, yl2⟩ := yl
            have ev := (yl2 _ hsq).symm.trans g1
            cases ev
            have kk := good_bind (show Good ((ofO (sg E2 x)).bind _) _ _ from kk)
            cases es : sg E2 x with
            | none => rw [es] at kk; exact kk.elim
            | some E3 =>
              rw [es] at kk
              have kk := good_bind (show Good ((fb E3).bind _) _ _ from kk)
              refine (hg (.ref q)).sem H3 O F2 E2 E3 σ2 x w I2 g2 es _ fun σ4 I4 _ _ => ?_
              refine (hb (.ref q)).sem H3 O F2 E3 σ4 I4 _ (kk.mono (fun fl _ q => ?_) fun c q => q)
              cases fl with
              | nx E5 => exact fun σ5 H5 F5 s5 I5 => ⟨F5, E5, s2.trans s5, I5, Good.mono (show Good (forLv gt sg fb mm (k + 1) E5) _ _ from q) (fun fl _ q => q.step s5) fun c q H6 k6 => q H6 (s5.stab k6)⟩
              | ct E5 => exact fun σ5 H5 F5 s5 I5 => ⟨F5, E5, s2.trans s5, I5, Good.mono (show Good (forLv gt sg fb mm (k + 1) E5) _ _ from q) (fun fl _ q => q.step s5) fun c q H6 k6 => q H6 (s5.stab k6)⟩
              | bk E5 => exact fun σ5 H5 F5 s5 I5 => q σ5 H5 F5 s5 I5.unpin
              | rt a => exact q
  · exact k.elim
end
end Fx

/-! Fx35: loops that read the rows of an owned list of owned lists. -/
namespace Fx
open PySem PySem.Spec L2
variable [Tbs]
section
variable {ε ε' ρ α β γ : Type} {D : EnvD ε} {D' : EnvD ε'} {X : Cx} {K : PySem.W.Frag} {R : Str → Hp → Prop} {rr : RetD ρ} {m : Md} {st : Stmt} {sts : List Stmt} {t u : TS} {te : TE} {e : Expr} {r : Rp α} {rb : Rp β} {pos pos' : Pos}
/-- slot j holds the n-th item of the list w that slot i holds -/
def alW (D : EnvD ε) (i j : Nat) (w : V) : EnvD (ε × Nat) where
  rel := fun K H O Ft E σ F => D.rel K H O Ft E.1 σ F ∧ ∃ a vs q, w = .ref a ∧ σ[i]? = some (some (.ref a)) ∧ a ∈ F ∧ H a = some (.lst vs) ∧ vs[E.2]? = some (.ref q) ∧ σ[j]? = some (some (.ref q))
  frame := fun ⟨h, a, vs, q, h0, h1, h2, h3, h4, h5⟩ e1 e2 k => ⟨D.frame h e1 e2 k, a, vs, q, h0, h1, h2, k a h2 _ h3 nt_lst, h4, h5⟩
theorem RelF.unW {i j : Nat} {w : V} {K : PySem.W.Frag} {H : Hp} {O F : List Addr} {E : ε × Nat} {σ : L2.St} (I : RelF (alW D i j w) K H O F E σ) : RelF D K H O F E.1 σ := ⟨I.rel.1, I.nd, I.dj, I.dom, I.tab⟩
theorem fe_liftW {i j : Nat} {w : V} {f : ε → Rs α} (h : FE D X K R m e te r f) : FE (alW D i j w) X K R m e te r (fun E => f E.1) :=
  ⟨h.hK, h.pe, fun H O F E σ I Q k => h.sem H O F E.1 σ I.unW Q k⟩
theorem fe_pin {i : Nat} {w : V} {f : ε → Rs α} (h : FE D X K R m e te r f) : FE (pinD D i w) X K R m e te r f :=
  ⟨h.hK, h.pe, fun H O F E σ I Q k => h.sem H O F E σ I.unpin Q k⟩
theorem ol_alW {i j : Nat} {w : V} {gt : ε → Option (List (List α))} {p : ε → Option (List (List α)) → ε} (L : Ln D D i (sO (oList2 r)) (sO (oList2 r)) gt p) : OLb false (alW D i j w) j r (rowG gt) (rowP gt p) := by
  refine ⟨fun {K H O F E σ} I {xs} hx => ?_, fun z => nomatch z⟩
  obtain ⟨_, a, vs, q, h0, h1, h2, h3, h4, h5⟩ := I.rel
  unfold rowG at hx
  cases eg : gt E.1 with
  | none => rw [eg] at hx; cases hx
  | some xss =>
    rw [eg] at hx
    have hx : xss[E.2]? = some xs := hx
    obtain ⟨a', qs, y0, y1, y2, y3, y4, y5, y6, y7, _⟩ := l2_at L I.unW eg
    rw [h1] at y0
    cases y0
    have evs : vs = qs.map V.ref := HO.lst.inj (Option.some.inj (h3.symm.trans y1))
    subst evs
    obtain ⟨q', g1, ws, g2, g3, g4⟩ := Paired.get y6 hx
    have eq : q' = q := by
      rw [List.getElem?_map, g1] at h4
      exact V.ref.inj (Option.some.inj h4)
    subst eq
    refine ⟨q', ws, h5, g2, g3, y4 q' (List.mem_of_getElem? g1), g4, fun ys us hl hp => ?_⟩
    obtain ⟨s2, I2⟩ := y7 E.2 q' ys us g1 hl hp
    refine ⟨s2, ⟨⟨?_, a, qs.map V.ref, q', h0, h1, h2, ?_, h4, h5⟩, I2.nd, I2.dj, I2.dom, I2.tab⟩⟩
    · have := I2.rel
      unfold rowP
      rw [eg]
      exact this
    · have : a ≠ q' := fun z => (List.nodup_cons.mp y5).1 (z ▸ List.mem_of_getElem? g1)
      rw [upd_ne this]
      exact h3
/-- another, shared slot -/
theorem ln_alW {bb bb' : Bool} {i j k : Nat} {w : V} {ra : Rp α} {rb : Rp β} {g : ε → Option α} {p : ε → Option β → ε'} (L : Ln D D' k (sS bb ra) (sS bb' rb) g p) (hi : k ≠ i := by decide) (hj : k ≠ j := by decide) :
    Ln (alW D i j w) (alW D' i j w) k (sS bb ra) (sS bb' rb) (fun E => g E.1) (fun E x => (p E.1 x, E.2)) := ⟨fun ⟨hr, a, vs, q, h0, h1, h2, h3, h4, h5⟩ => by
  obtain ⟨Fa, F1, Fb, w0, q1, q2, q3, q4⟩ := L.get hr
  refine ⟨Fa, F1, Fb, w0, q1, q2, q3, fun H' Ft' e1 e2 k x' w' F1' hs => ⟨q4 H' Ft' e1 e2 k x' w' F1' hs, a, vs, q, h0, by rw [List.getElem?_set_ne hi]; exact h1, ?_, ?_, h4, by rw [List.getElem?_set_ne hj]; exact h5⟩⟩
  · have z1 : F1 = [] := q3.1
    rw [q1, z1] at h2
    rcases List.mem_append.mp h2 with z | z
    · rw [List.append_nil] at z
      exact List.mem_append_left _ (List.mem_append_left _ z)
    · exact List.mem_append_right _ z
  · have z1 : F1 = [] := q3.1
    rw [q1, z1, List.append_nil] at h2
    exact k a h2 _ h3 nt_lst⟩
def forAv (gt : ε → Option (List (List α))) (px : ε → Option β → ε) (body : ε × Nat → Rs (Fl (ε × Nat) ρ)) : Nat → Nat → ε → Rs (Fl ε ρ)
  | 0, _, _ => .bad
  | n + 1, i, E => (ofO (gt E)).bind fun xss => match xss[i]? with
    | none => .ok (.nx E)
    | some _ => (body (px E none, i)).bind fun fl => match fl with
      | .nx E2 => if E2.2 = i then forAv gt px body n (i + 1) E2.1 else .bad
      | .ct E2 => if E2.2 = i then forAv gt px body n (i + 1) E2.1 else .bad
      | .bk E2 => .ok (.nx E2.1)
      | .rt a => .ok (.rt a)
open Classical in
noncomputable def dForA (gt : ε → Option (List (List α))) (px : ε → Option β → ε) (body : ε × Nat → Rs (Fl (ε × Nat) ρ)) : ε → Rs (Fl ε ρ) := fun E => if h : ∃ n, forAv gt px body n 0 E ≠ .bad then forAv gt px body (Classical.choose h) 0 E else .bad
theorem forAv_more {gt : ε → Option (List (List α))} {px : ε → Option β → ε} {body : ε × Nat → Rs (Fl (ε × Nat) ρ)} : ∀ (n k i : Nat) (E : ε), forAv gt px body n i E ≠ .bad → forAv gt px body (n + k) i E = forAv gt px body n i E
  | 0, k, i, E, h => absurd rfl h
  | n + 1, k, i, E, h => by
    rw [show n + 1 + k = (n + k) + 1 by omega]
    unfold forAv at h ⊢
    cases hc : gt E with
    | none => rfl
    | some xs =>
      rw [hc] at h
      simp only [ofO_some, Rs.bind_ok] at h ⊢
      cases hx : xs[i]? with
      | none => rfl
      | some x =>
        rw [hx] at h
        dsimp only at h ⊢
        cases hb : body (px E none, i) with
        | ok fl =>
          rw [hb] at h
          simp only [Rs.bind_ok] at h ⊢
          cases fl with
          | nx E2 =>
            dsimp only at h ⊢
            split
            · rename_i c
              rw [if_pos c] at h
              exact forAv_more n k (i + 1) E2.1 h
            · rfl
          | ct E2 =>
            dsimp only at h ⊢
            split
            · rename_i c
              rw [if_pos c] at h
              exact forAv_more n k (i + 1) E2.1 h
            · rfl
          | bk E2 => rfl
          | rt a => rfl
        | exc c => rfl
        | bad => rfl
theorem dForA_eq {gt : ε → Option (List (List α))} {px : ε → Option β → ε} {body : ε × Nat → Rs (Fl (ε × Nat) ρ)} {E : ε} {x : Rs (Fl ε ρ)} (n : Nat) (h : forAv gt px body n 0 E = x) (hx : x ≠ .bad) : dForA gt px body E = x := by
  have ex : ∃ n, forAv gt px body n 0 E ≠ .bad := ⟨n, by rw [h]; exact hx⟩
  unfold dForA
  rw [dif_pos ex]
  have h2 := Classical.choose_spec ex
  have a := forAv_more (Classical.choose ex) n 0 E h2
  have b := forAv_more n (Classical.choose ex) 0 E (by rw [h]; exact hx)
  rw [← a, Nat.add_comm, b, h]
/-- a loop that only reads -/
theorem wp_forA {gt : ε → Option (List (List α))} {px : ε → Option β → ε} {body : ε × Nat → Rs (Fl (ε × Nat) ρ)} {Q : Fl ε ρ → Prop} (xss : List (List α)) (P : Nat → ε → Prop) (E : ε) (h0 : P 0 E) (hg : ∀ i E, P i E → gt E = some xss)
    (hs : ∀ i x E, xss[i]? = some x → P i E → wp (body (px E none, i)) fun fl => match fl with
      | .nx E2 => E2.2 = i ∧ P (i + 1) E2.1
      | .ct E2 => E2.2 = i ∧ P (i + 1) E2.1
      | .bk E2 => Q (.nx E2.1)
      | .rt a => Q (.rt a)) (hd : ∀ E, P xss.length E → Q (.nx E)) : wp (dForA gt px body E) Q := by
  have key : ∀ (n i : Nat) (E : ε), i + n = xss.length → P i E → ∃ fl, forAv gt px body (n + 1) i E = .ok fl ∧ Q fl := by
    intro n
    induction n with
    | zero =>
      intro i E e hp
      unfold forAv
      rw [hg i E hp, ofO_some, Rs.bind_ok, List.getElem?_eq_none (by omega)]
      have : i = xss.length := by omega
      exact ⟨_, rfl, hd E (this ▸ hp)⟩
    | succ n ih =>
      intro i E e hp
      have hx : xss[i]? = some xss[i] := List.getElem?_eq_getElem (by omega)
      have h1 := hs i _ E hx hp
      unfold forAv
      rw [hg i E hp, ofO_some, Rs.bind_ok, hx]
      dsimp only
      obtain ⟨fl, e2, h2⟩ := h1.of
      rw [e2, Rs.bind_ok]
      cases fl with
      | nx E2 =>
        dsimp only at h2 ⊢
        rw [if_pos h2.1]
        exact ih (i + 1) E2.1 (by omega) h2.2
      | ct E2 =>
        dsimp only at h2 ⊢
        rw [if_pos h2.1]
        exact ih (i + 1) E2.1 (by omega) h2.2
      | bk E2 => exact ⟨_, rfl, h2⟩
      | rt a => exact ⟨_, rfl, h2⟩
  obtain ⟨fl, e, q⟩ := key xss.length 0 E (by omega) h0
  rw [dForA_eq _ e (by simp)]
  exact q
theorem fs_forA {x y : Str} {pt pl : Pos} {bb : Bool} {i j : Nat} {body : List Stmt} {tb : TS} {gt : ε → Option (List (List α))} {p : ε → Option (List (List α)) → ε} {gx : ε → Option β} {px : ε → Option β → ε} {fb : ε × Nat → Rs (Fl (ε × Nat) ρ)} (hp : PassesOwn (model X.prog X.w) X.A X.env X.xe) (hc : X.calm = true)
    (L : Ln D D i (sO (oList2 r)) (sO (oList2 r)) gt p) (Lx : Ln D D j (sS bb rb) (sS bb rb) gx px) (hb : ∀ w, FSs (alW D i j w) X K R rr body tb fb) (hN : X.N.Nodup) (e2 : ∀ E x, gt (px E x) = gt E := by intro _ _; rfl) (hij : i ≠ j := by decide)
    (hi : X.N[j]? = some x := by rfl) (hx : Loc X.env.scope x := by first | exact .inl rfl | exact .inr rfl) (hf : X.fn x = true ∨ X.env.scope.names.lookup x = some .local := by first | exact .inl rfl | exact .inr rfl)
    (hNy : X.N[i]? = some y := by rfl) (hv : Vis X.env.scope y := by first | exact Or.inl rfl | exact Or.inr (Or.inl rfl) | exact Or.inr (Or.inr rfl)) (hd : (y == ("__debug__" : Str)) = false := by decide) (hcd : (y == ("__classdict__" : Str)) = false := by decide) :
    FS D X K R rr (.For (.Name x pt) (.Name y pl) body [] pos) (tFor (iList K (tVar i)) (gName j) tb) (dForA (ρ := ρ) gt px fb) := by
  cases (hb .non).hK
  refine ⟨rfl, ps_for hp hc (pi_list (pe_var hNy hv hd hcd)) (pg_name hN hi hx hf) (hb .non).ps (fun _ => rfl), fun H O F E σ I Dn k => ?_⟩
  unfold dForA at k
  split at k
  · rename_i ex
    have h2 := Classical.choose_spec ex
    generalize Classical.choose ex = n0 at k h2
    obtain ⟨n1, rfl⟩ : ∃ n1, n0 = n1 + 1 := by
      cases n0 with
      | zero => exact absurd rfl h2
      | succ n => exact ⟨n, rfl⟩
    cases eg : gt E with
    | none =>
      unfold forAv at k
      rw [eg] at k
      exact k.elim
    | some xs0 =>
      obtain ⟨a0, qs0, y0, y1, y2, y3, y4, y5, y6, _⟩ := l2_at L I eg
      refine ⟨.ref a0, y0, a0, rfl, ⟨_, .inl (.inl y1)⟩, ?_⟩
      refine ⟨fun k mm σ2 H2 => σ2[i]? = some (some (.ref a0)) ∧ ∃ F2 E2, Step F H F2 H2 ∧ RelF D X.K H2 O F2 E2 σ2 ∧ Good (forAv gt px fb mm k E2) (FlPost D X.K rr O F2 H2 Dn) (fun c => ∀ H', Stab F2 H2 H' → R c H'), ⟨n1 + 1, y0, F, E, Step.refl, I, k⟩, ?_⟩
      rintro k mm σ2 H2 ⟨s0, F2, E2, s2, I2, kk⟩
      cases mm with
      | zero => exact kk.elim
      | succ mm =>
        unfold forAv at kk
        have kk := good_bind kk
        cases eg2 : gt E2 with
        | none => rw [eg2] at kk; exact kk.elim
        | some xss =>
          rw [eg2] at kk
          obtain ⟨a1, qs, z0, z1, z2, z3, z4, z5, z6, _⟩ := l2_at L I2 eg2
          rw [s0] at z0
          cases z0
          have hsq : SqL X.K H2 a0 (qs.map V.ref) := .inl (.inl z1)
          have kk : Good (match xss[k]? with
            | none => .ok (.nx E2)
            | some _ => (fb (px E2 none, k)).bind fun fl => match fl with
              | .nx E3 => if E3.2 = k then forAv gt px fb mm (k + 1) E3.1 else .bad
              | .ct E3 => if E3.2 = k then forAv gt px fb mm (k + 1) E3.1 else .bad
              | .bk E3 => .ok (.nx E3.1)
              | .rt a => .ok (.rt a)) (FlPost D X.K rr O F2 H2 Dn) (fun c => ∀ H', Stab F2 H2 H' → R c H') := kk
          cases hxk : xss[k]? with
          | none =>
            rw [hxk] at kk
            have hl : (qs.map V.ref).length ≤ k := by
              rw [List.length_map, ← Paired.len z6]
              exact List.getElem?_eq_none_iff.mp hxk
            exact .inl ⟨⟨_, hsq, hl⟩, (show FlPost D X.K rr O F2 H2 Dn (.nx E2) from kk) σ2 H2 F2 Step.refl I2⟩
          | some xk =>
            rw [hxk] at kk
            obtain ⟨q, g1, g2⟩ := Paired.get z6 hxk
            have hqn : (qs.map V.ref)[k]? = some (.ref q) := by rw [List.getElem?_map, g1]; rfl
            refine .inr ⟨⟨_, _, hsq, hqn⟩, fun σ3 H3 => σ3[i]? = some (some (.ref a0)) ∧ ∃ F3 E3, Step F H F3 H3 ∧ RelF D X.K H3 O F3 E3 σ3 ∧ Good (forAv gt px fb mm (k + 1) E3) (FlPost D X.K rr O F3 H3 Dn) (fun c => ∀ H', Stab F3 H3 H' → R c H'), fun σ3 H3 h3 => ⟨mm, Nat.lt_succ_self _, h3⟩, fun v H3 yl => ?_⟩
            obtain ⟨rfl, yl2⟩ := yl
            have ev := (yl2 _ hsq).symm.trans hqn
            cases ev
            have kk := good_bind (show Good ((fb (px E2 none, k)).bind _) _ _ from kk)
            have I3 := I2.put Lx sh_s (x := none) (w := some (.ref q)) ⟨rfl, fun _ z => nomatch z⟩
            have hjl : j < σ2.length := by
              obtain ⟨_, _, _, h, _⟩ := Lx.at I2
              exact (List.getElem?_eq_some_iff.mp h).1
            refine (hb (.ref a0)).sem H3 O F2 (px E2 none, k) _ ⟨⟨I3.rel, a0, qs.map V.ref, q, rfl, ?_, z3, z1, hqn, List.getElem?_set_self hjl⟩, I3.nd, I3.dj, I3.dom, I3.tab⟩ _ (kk.mono (fun fl _ z => ?_) fun c z => z)
            · rw [List.getElem?_set_ne (fun z => hij z.symm)]; exact s0
            have cnt : ∀ (E5 : ε × Nat), Good (if E5.2 = k then forAv gt px fb mm (k + 1) E5.1 else .bad) (FlPost D X.K rr O F2 H3 Dn) (fun c => ∀ H', Stab F2 H3 H' → R c H') → ∀ σ5 H5 F5, Step F2 H3 F5 H5 → RelF (alW D i j (.ref a0)) X.K H5 O F5 E5 σ5 →
                σ5[i]? = some (some (.ref a0)) ∧ ∃ F3 E3, Step F H F3 H5 ∧ RelF D X.K H5 O F3 E3 σ5 ∧ Good (forAv gt px fb mm (k + 1) E3) (FlPost D X.K rr O F3 H5 Dn) (fun c => ∀ H', Stab F3 H5 H' → R c H') := fun E5 z σ5 H5 F5 s5 I5 => by
              obtain ⟨_, a5, vs5, q5, w0, w1, _⟩ := I5.rel
              cases w0
              split at z
              · exact ⟨w1, F5, E5.1, s2.trans s5, I5.unW, Good.mono z (fun fl _ q => q.step s5) fun c q H6 k6 => q H6 (s5.stab k6)⟩
              · exact z.elim
            cases fl with
            | nx E5 => exact fun σ5 H5 F5 s5 I5 => cnt E5 z σ5 H5 F5 s5 I5
            | ct E5 => exact fun σ5 H5 F5 s5 I5 => cnt E5 z σ5 H5 F5 s5 I5
            | bk E5 => exact fun σ5 H5 F5 s5 I5 => z σ5 H5 F5 s5 I5.unW
            | rt a => exact z
  · exact k.elim
end
end Fx

/-! Fx36: slices with a step. -/
namespace Fx
open PySem PySem.Spec L2
variable [Tbs]
/-- every s-th item between two places -/
def stepF {α : Type} (s : Int) (lo hi : Option Int) (xs : List α) : List α := (sliceRange (sliceBounds lo hi (some s) xs.length).1 (sliceBounds lo hi (some s) xs.length).2.1 (sliceBounds lo hi (some s) xs.length).2.2).filterMap (xs[·]?)
theorem stepF_mem {α : Type} {s : Int} {lo hi : Option Int} {xs : List α} {x : α} (h : x ∈ stepF s lo hi xs) : x ∈ xs := by
  obtain ⟨k, _, e⟩ := List.mem_filterMap.mp h
  exact List.mem_of_getElem? e
theorem paired_pick {α β : Type} {F : α → β → Prop} {xs : List α} {vs : List β} (h : Paired F xs vs) : ∀ is : List Nat, Paired F (is.filterMap (xs[·]?)) (is.filterMap (vs[·]?))
  | [] => .nil
  | i :: is => by
    rw [List.filterMap_cons, List.filterMap_cons]
    cases e : xs[i]? with
    | none =>
      have : vs[i]? = none := by
        rw [List.getElem?_eq_none_iff] at e ⊢
        rw [← Paired.len h]; exact e
      rw [this]
      exact paired_pick h is
    | some x =>
      obtain ⟨v, e2, r⟩ := Paired.get h e
      rw [e2]
      exact .cons r (paired_pick h is)
def tStep (K : PySem.W.Frag) (s : Int) (te : TE) (tl th : TO) : TE := fun σ H Q => te σ H fun x H1 => tl σ H1 fun l H2 => th σ H2 fun h H3 => ∃ a xs, x = .ref a ∧ SqL K H3 a xs ∧ ∀ p, H3 p = none → Q (.ref p) (upd H3 p (.lst (stepF s l h xs)))
end Fx
namespace L2
open PySem PySem.Spec PyProof.Rows
variable {X : Cx}
theorem stepF_toArray (s : Int) (lo hi : Option Int) (its : List Value) : slicePick its.toArray lo hi (some s) = (Fx.stepF s lo hi its).toArray := by
  unfold slicePick Fx.stepF
  simp
theorem pe_step [Fx.Tbs] {e : Expr} {te : TE} {lo hi : Option Expr} {tl th : TO} {s : Int} {k : Nat} {p1 p3 pos : Pos} (hs0 : 0 < s) (he : PE X e te) (hl : PO X lo tl) (hh : PO X hi th) : PE X (.Subscript e (.Slice lo hi (some (.Constant (.int s) k p1)) p3) pos) (Fx.tStep X.K s te tl th) := by
  refine ⟨fun pins s0 σ H Q I h => ?_⟩
  refine Subscript_ (thn (he.run pins s0 σ H _ I h) fun v s1 ⟨x, H1, I1, r1, q1⟩ => ?_)
  have hst : PO X (some (.Constant (.int s) k p1)) (tPart (tC (.int s))) := po_some pe_int
  refine wpAny_Slice (thn (hl.run pins s1 σ H1 _ I1 q1) fun vl s2 ⟨l, H2, I2, pl, q2⟩ => ?_)
  refine thn (hh.run pins s2 σ H2 _ I2 q2) fun vu s3 ⟨u, H3, I3, pu, q3⟩ => ?_
  obtain ⟨a, xs, ex, hx, q⟩ := q3
  subst ex
  cases r1
  refine thn (hst.run pins s3 σ H3 (fun o H4 => o = some s ∧ H4 = H3) I3 ⟨s, rfl, rfl, rfl⟩) fun vs s4 ⟨o, H4, I4, ps, eo, e4⟩ => ?_
  subst eo e4
  have I5 : Inv X pins σ H4 { s4 with heap := s4.heap.push { cls := .type "slice", data := .fields #[vl, vu, vs] } } := I4.kept (t' := s4.toks) fun b ob q => Heap.get?_push_of_some _ q
  obtain ⟨its, r, ht, hz⟩ := I5.list hx
  have hlen := r.length
  show wpAny (model X.prog X.w) X.A (subscriptTail e (.Slice lo hi (some (.Constant (.int s) k p1)) p3) (.ref a) (.ref s4.heap.objs.size)) (EP X pins σ Q) X.xe { s4 with heap := s4.heap.push { cls := .type "slice", data := .fields #[vl, vu, vs] } }
  refine tail_any (ops := [.ref a, .ref s4.heap.objs.size]) ht.isList.typeIs (PySem.slot_list_getitem.lookup) ?_ (by with_unfolding_all rfl)
  refine wpAny_getItem_list_slice ht.isList (Heap.IsSliceOf.new _ vl vu vs) pl pu ps (by intro z; cases z; exact absurd hs0 (by decide)) ?_ (by rw [List.size_toArray]; omega)
  rw [stepF_toArray]
  have rp : Paired RelV (Fx.stepF s l u xs) (Fx.stepF s l u its) := by
    have := Fx.paired_pick r (sliceRange (sliceBounds l u (some s) xs.length).1 (sliceBounds l u (some s) xs.length).2.1 (sliceBounds l u (some s) xs.length).2.2)
    unfold Fx.stepF
    rw [← hlen]
    exact this
  refine ⟨.ref _, _, I5.laid (t' := s4.toks) (o := .lst (Fx.stepF s l u xs)) (fun b ob q => Heap.get?_push_of_some _ q) (Nat.le_refl _) ?_, rfl, q _ (I5.hok.fresh (Nat.le_refl _))⟩
  have sz : (Fx.stepF s l u xs).length ≤ xs.length := by
    have := slicePick_size_le (xs.map fun _ => Value.none).toArray l u (some s)
    rw [stepF_toArray] at this
    have e : (Fx.stepF s l u (xs.map fun _ => Value.none)).length = (Fx.stepF s l u xs).length := by
      have p : Paired (fun (a : V) (b : Value) => b = Value.none) xs (xs.map fun _ => Value.none) := by
        clear this hlen r rp q hx hz
        induction xs with
        | nil => exact .nil
        | cons x xs ih => exact .cons rfl ih
      have p2 := Fx.paired_pick p (sliceRange (sliceBounds l u (some s) xs.length).1 (sliceBounds l u (some s) xs.length).2.1 (sliceBounds l u (some s) xs.length).2.2)
      unfold Fx.stepF
      rw [List.length_map]
      exact (Fx.Paired.len p2).symm
    rw [List.size_toArray, e, List.size_toArray, List.length_map] at this
    exact this
  exact ⟨Nat.le_trans sz hz, _, 0, rp, Heap.get?_push_size _ rfl⟩
end L2
namespace Fx
open PySem PySem.Spec L2
variable [Tbs]
section
variable {ε α β π : Type} {D : EnvD ε} {X : Cx} {K : PySem.W.Frag} {R : Str → Hp → Prop} {m : Md} {r : Rp α} {e : Expr} {te : TE} {pos : Pos} {P : PD π}
theorem stepF_len {s : Int} (hs : 0 < s) (lo hi : Option Int) (xs : List α) : (stepF s lo hi xs).length ≤ xs.length := by
  have := slicePick_size_le (xs.map fun _ => Value.none).toArray lo hi (some s)
  rw [stepF_toArray] at this
  have e : (stepF s lo hi (xs.map fun _ => Value.none)).length = (stepF s lo hi xs).length := by
    have p : Paired (fun (a : α) (b : Value) => b = Value.none) xs (xs.map fun _ => Value.none) := by
      clear this
      induction xs with
      | nil => exact .nil
      | cons x xs ih => exact .cons rfl ih
    have p2 := paired_pick p (sliceRange (sliceBounds lo hi (some s) xs.length).1 (sliceBounds lo hi (some s) xs.length).2.1 (sliceBounds lo hi (some s) xs.length).2.2)
    unfold stepF
    rw [List.length_map]
    exact (Paired.len p2).symm
  rw [List.size_toArray, e, List.size_toArray, List.length_map] at this
  exact this
def dStep (s : Int) (f : ε → Rs (List α)) (lo hi : ε → Rs (Option Int)) : ε → Rs (List α) := fun E => (f E).bind fun xs => (lo E).bind fun l => (hi E).bind fun h => .ok (stepF s l h xs)
theorem fe_step {s : Int} {j : Nat} {p1 p2 : Pos} {f : ε → Rs (List α)} {lo hi : Option Expr} {tl th : TO} {fl fh : ε → Rs (Option Int)} (ha : FE D X K R m e te (rList r) f) (hl : FO D X K R lo tl fl) (hh : FO D X K R hi th fh) (hs : 0 < s := by decide) :
    FE D X K R m (.Subscript e (.Slice lo hi (some (.Constant (.int s) j p1)) p2) pos) (tStep K s te tl th) (rList r) (dStep s f fl fh) := by
  cases ha.hK
  exact ⟨rfl, pe_step hs ha.pe hl.po hh.po, fun H O F E σ I Q k =>
  ha.sem H O F E σ I _ ((good_bind k).mono (fun xs _ k v H1 e1 r1 => hl.sem H1 O F E σ (I.same e1) _ ((good_bind k).mono (fun l _ k H2 e2 => hh.sem H2 O F E σ (I.same (e1.trans e2)) _ ((good_bind k).mono (fun u _ k H3 e3 => by
    have r3 := (rList r).mono (hidM_sm (e2.trans e3)) r1
    obtain ⟨p, vs, h1, h2, hz, h3⟩ := r3
    subst h1
    refine ⟨p, vs, rfl, .inl (.inl (hidM_low.get _ _ h2)), fun n hn => ?_⟩
    have s1 := Fx.same_upd (o := .lst (stepF s l u vs)) hn
    have rp : Paired (r.rp X.K (hidM m O F H3)) (stepF s l u xs) (stepF s l u vs) := by
      have := paired_pick h3 (sliceRange (sliceBounds l u (some s) xs.length).1 (sliceBounds l u (some s) xs.length).2.1 (sliceBounds l u (some s) xs.length).2.2)
      unfold stepF
      rw [← Paired.len h3]
      exact this
    exact k _ _ (((e1.trans e2).trans e3).trans s1) ⟨n, _, rfl, hidM_new (Dom.same I.dom ((e1.trans e2).trans e3)) hn, Nat.le_trans (stepF_len hs _ _ _) hz, Paired.imp rp fun _ _ => r.mono (hidM_sm s1)⟩)
    fun c k H3 e3 => k H3 ((e1.trans e2).trans e3))) fun c k H2 e2 => k H2 (e1.trans e2))) fun _ k => k)⟩
end
end Fx

/-! Fx37: an owned thing of any kind that is owned (true) till it is given away (false). -/
namespace Fx
open PySem PySem.Spec L2
variable [Tbs]
section
variable {ε ε' ρ α β π : Type} {D : EnvD ε} {X : Cx} {K : PySem.W.Frag} {R : Str → Hp → Prop} {rr : RetD ρ} {m m' ma mb : Md} {st : Stmt} {sts : List Stmt} {t u : TS} {te ta : TE} {e a c : Expr} {r : Rp α} {pos pos' : Pos} {P : PD π} {o : Ro α}
def sXo {α : Type} (o : Ro α) : Slot (Bool × α) where
  rel := fun K H O Ft x w F => match x with
    | none => F = []
    | some (true, a) => ∃ v, w = some v ∧ o.rp K H (hid (O ++ Ft) H) a v F
    | some (false, a) => F = [] ∧ ∃ v, w = some v ∧ o.sh.rp K (hid (O ++ Ft) H) a v
  frame := fun {K H H' O O' Ft Ft' F x w} h e1 e2 k => by
    match x, h with
    | none, h => exact h
    | some (true, xs), h =>
      obtain ⟨v, q1, q2⟩ := h
      exact ⟨v, q1, o.frame q2 e1 k⟩
    | some (false, xs), h =>
      obtain ⟨h0, v, q1, q2⟩ := h
      exact ⟨h0, v, q1, o.sh.mono e1 q2⟩
  non := rfl
def yO (g : ε → Option (Bool × α)) : ε → Option α := fun E => match g E with
  | some (true, xs) => some xs
  | _ => none
def yA (g : ε → Option (Bool × α)) : ε → Option α := fun E => (g E).map (·.2)
def yF (g : ε → Option (Bool × α)) : ε → Option α := fun E => match g E with
  | some (false, xs) => some xs
  | _ => none
def yP (p : ε → Option (Bool × α) → ε) : ε → Option α → ε := fun E x => p E (x.map fun xs => (true, xs))
def yZ (g : ε → Option (Bool × α)) (p : ε → Option (Bool × α) → ε) : ε → ε := fun E => p E ((g E).map fun a => (false, a.2))
theorem ln_x {i : Nat} {g : ε → Option (Bool × α)} {p : ε → Option (Bool × α) → ε} (L : Ln D D i (sXo o) (sXo o) g p) : Ln D D i (sO o) (sO o) (yO g) (yP p) := ⟨fun {K H O Ft F E σ} h => by
  obtain ⟨Fa, F1, Fb, w0, q1, q2, q3, q4⟩ := L.get h
  refine ⟨Fa, F1, Fb, w0, q1, q2, ?_, fun H' Ft' e1 e2 k x' w' F1' hs => q4 H' Ft' e1 e2 k (x'.map fun xs => (true, xs)) w' F1' ?_⟩
  · unfold yO
    match eg : g E, q3 with
    | none, q => exact ⟨fun _ => q, fun _ z => nomatch z⟩
    | some (true, xs), q => exact ⟨(fun z => nomatch z), fun a ha => by cases ha; exact q⟩
    | some (false, xs), q => exact ⟨fun _ => q.1, fun _ z => nomatch z⟩
  · cases x' with
    | none => exact hs.1 rfl
    | some xs => exact hs.2 xs rfl⟩
theorem yZ_ok {K : PySem.W.Frag} {i : Nat} {g : ε → Option (Bool × α)} {p : ε → Option (Bool × α) → ε} (L : Ln D D i (sXo o) (sXo o) g p) {H : Hp} {O F : List Addr} {E : ε} {σ : L2.St} (I : RelF D K H O F E σ) : ∃ F2, Step F H F2 H ∧ RelF D K H O F2 (yZ g p E) σ := by
  obtain ⟨F1, w, sub, nd1, hw, hs, cl⟩ := RelF.slot L I
  obtain ⟨F2, eqF, m2, m1, st, fin⟩ := cl H [] (.of_same (Same.refl H)) (fun q hq => nomatch hq) List.nodup_nil (fun q hq => nomatch hq)
  refine ⟨F2, st, ?_⟩
  have sub2 : ∀ q ∈ O ++ F2, q ∈ O ++ F := fun a ha => by
    rcases List.mem_append.mp ha with z | z
    · exact List.mem_append_left _ z
    · rcases m2 a z with z | z
      · cases z
      · exact List.mem_append_right _ z.1
  have r2 := fin ((g E).map fun a => (false, a.2)) w (by
    match g E, hs with
    | none, h => rfl
    | some (true, xs), h =>
      obtain ⟨v, q1, q2⟩ := h
      refine ⟨rfl, v, q1, ?_⟩
      have e3 := o.frame (H' := hid (O ++ F2) H) (Hs' := hid (O ++ F) H) q2 (Wk.refl _) fun p hp u hu _ => by
        rw [hid_out]
        · exact hu
        · intro z
          rcases List.mem_append.mp z with z | z
          · exact I.dj p (sub p hp) z
          · rcases m2 p z with z | z
            · cases z
            · exact z.2 hp
      exact o.toSh e3 (hid_sub sub2)
    | some (false, xs), h =>
      obtain ⟨h0, v, q1, q2⟩ := h
      exact ⟨rfl, v, q1, o.sh.mono (hid_sub sub2) q2⟩)
  rw [set_self hw] at r2
  exact r2
theorem fs_frzo {t : TS} {f : ε → Rs (Fl ε ρ)} {i : Nat} {g : ε → Option (Bool × α)} {p : ε → Option (Bool × α) → ε} (L : Ln D D i (sXo o) (sXo o) g p) (h : FS D X K R rr st t f) : FS D X K R rr st t (fun E => f (yZ g p E)) :=
  ⟨h.hK, h.ps, fun H O F E σ I Dn k => by
    obtain ⟨F2, s2, I2⟩ := yZ_ok L I
    exact h.sem H O F2 _ σ I2 Dn (k.mono (fun fl _ q => q.step s2) fun c q H' k' => q H' (s2.stab k'))⟩
/-- .. owned or given away -/
theorem fe_ownXo {i : Nat} {x : Str} {g : ε → Option (Bool × α)} {p : ε → Option (Bool × α) → ε} (L : Ln D D i (sXo o) (sXo o) g p) (hN : X.N[i]? = some x := by rfl) (hv : Vis X.env.scope x := by first | exact Or.inl rfl | exact Or.inr (Or.inl rfl) | exact Or.inr (Or.inr rfl))
    (hd : (x == ("__debug__" : Str)) = false := by decide) (hcd : (x == ("__classdict__" : Str)) = false := by decide) (hK : X.K = K := by rfl) : FE D X K R mF (.Name x pos) (tVar i) o.sh (dV (yA g)) := by
  cases hK
  refine ⟨rfl, pe_var hN hv hd hcd, fun H O F E σ I Q k => ?_⟩
  obtain ⟨F1, w, sub, nd1, hw, hs, _⟩ := RelF.slot L I
  unfold dV yA at k
  match eg : g E, hs with
  | none, _ => rw [eg] at k; exact k.elim
  | some (true, xs), h =>
    rw [eg] at k
    obtain ⟨v, q1, q2⟩ := h
    subst q1
    refine ⟨v, hw, k v H (Same.refl H) ?_⟩
    have e3 := o.frame (H' := hidM mF O F H) (Hs' := hid (O ++ F) H) q2 (Wk.refl _) fun p hp u hu _ => by
      have : p ∉ O := I.dj p (sub p hp)
      unfold hidM
      rw [hid_out (by simpa using this)]
      exact hu
    exact o.toSh e3 hidM_top
  | some (false, xs), h =>
    rw [eg] at k
    obtain ⟨h0, v, q1, q2⟩ := h
    subst q1
    exact ⟨v, hw, k v H (Same.refl H) (o.sh.mono hidM_top q2)⟩
/-- .. given away -/
theorem fe_frzXo {i : Nat} {x : Str} {g : ε → Option (Bool × α)} {p : ε → Option (Bool × α) → ε} (L : Ln D D i (sXo o) (sXo o) g p) (hN : X.N[i]? = some x := by rfl) (hv : Vis X.env.scope x := by first | exact Or.inl rfl | exact Or.inr (Or.inl rfl) | exact Or.inr (Or.inr rfl))
    (hd : (x == ("__debug__" : Str)) = false := by decide) (hcd : (x == ("__classdict__" : Str)) = false := by decide) (hK : X.K = K := by rfl) : FE D X K R mS (.Name x pos) (tVar i) o.sh (dV (yF g)) := by
  cases hK
  refine ⟨rfl, pe_var hN hv hd hcd, fun H O F E σ I Q k => ?_⟩
  obtain ⟨F1, w, sub, nd1, hw, hs, _⟩ := RelF.slot L I
  unfold dV yF at k
  match eg : g E, hs with
  | none, _ => rw [eg] at k; exact k.elim
  | some (true, xs), h => rw [eg] at k; exact k.elim
  | some (false, xs), h =>
    rw [eg] at k
    obtain ⟨h0, v, q1, q2⟩ := h
    subst q1
    exact ⟨v, hw, k v H (Same.refl H) q2⟩
end
end Fx

/-! Fx38: texts. -/
namespace Fx
open PySem PySem.Spec L2
variable [Tbs]
section
variable {ε α β γ π : Type} {D : EnvD ε} {X : Cx} {K : PySem.W.Frag} {R : Str → Hp → Prop} {m ma mb : Md} {r : Rp α} {ra : Rp β} {rc : Rp γ} {e o : Expr} {te to : TE} {pos : Pos} {P : PD π}
/-! ### operators -/
def qCatS : R2 := fun x y H Q => ∃ i j, x = .str i ∧ y = .str j ∧ i.length + j.length ≤ sizeLine ∧ Q (.str (i ++ j)) H
noncomputable def catS : Str → Str → Option Str := fun a b => cIf (a.length + b.length ≤ sizeLine) (some (a ++ b)) none
theorem b_catS {K : PySem.W.Frag} : Bin K ma mb m qCatS rStr rStr rStr catS := fun H O F x y z v w d h1 h2 e Q k => by
  cases h1; cases h2
  unfold catS at e
  by_cases c : x.length + y.length ≤ sizeLine
  · rw [cIf_pos c] at e
    cases e
    exact ⟨x, y, rfl, rfl, c, k _ H (Same.refl H) rfl⟩
  · rw [cIf_neg c] at e; cases e
noncomputable def ixS : Str → Int → Option Str := fun z i => cIf (z.length ≤ sizeLine) ((atI z.cps.toList i).map fun c => (⟨#[c]⟩ : Str)) none
theorem b_ixS {K : PySem.W.Frag} : Bin K ma mb m rIxS rStr rInt rStr ixS := fun H O F x y z v w d h1 h2 e Q k => by
  cases h1; cases h2
  unfold ixS at e
  by_cases c : x.length ≤ sizeLine
  · rw [cIf_pos c] at e
    cases q : atI x.cps.toList y with
    | none => rw [q] at e; cases e
    | some ch =>
      rw [q] at e
      cases e
      exact ⟨x, y, ch, rfl, rfl, c, q, k _ H (Same.refl H) rfl⟩
  · rw [cIf_neg c] at e; cases e
def hasS (i j : Str) : Bool := !(Builtin.Str.occurrences j i 0 j.length 1).isEmpty
def qInS : R2 := fun x y H Q => ∃ i j, x = .str i ∧ y = .str j ∧ Q (.bl (!(Builtin.Str.occurrences j i 0 j.length 1).isEmpty)) H
def qNotInS : R2 := fun x y H Q => ∃ i j, x = .str i ∧ y = .str j ∧ Q (.bl (!(!(Builtin.Str.occurrences j i 0 j.length 1).isEmpty))) H
def inS : Str → Str → Option Bool := fun i j => some (hasS i j)
def notInS : Str → Str → Option Bool := fun i j => some (!hasS i j)
theorem b_inS {K : PySem.W.Frag} : Bin K ma mb m qInS rStr rStr rBool inS := fun H O F x y z v w d h1 h2 e Q k => by
  cases h1; cases h2; cases e
  exact ⟨x, y, rfl, rfl, k _ H (Same.refl H) rfl⟩
theorem b_notInS {K : PySem.W.Frag} : Bin K ma mb m qNotInS rStr rStr rBool notInS := fun H O F x y z v w d h1 h2 e Q k => by
  cases h1; cases h2; cases e
  exact ⟨x, y, rfl, rfl, k _ H (Same.refl H) rfl⟩
/-! ### functions -/
def qStrI : List V → Hp → VK → Prop := fun xs H Q => ∃ i, xs = [.int i] ∧ i.natAbs.log2 < 1920 ∧ Q (.str (toString i)) H
noncomputable def strI : Int → Option Str := fun i => cIf (i.natAbs.log2 < 1920) (some (toString i)) none
theorem c_strI {K : PySem.W.Frag} : C1 K ma m qStrI rInt rStr strI := fun H O F x z v d h e Q k => by
  cases h
  unfold strI at e
  by_cases c : x.natAbs.log2 < 1920
  · rw [cIf_pos c] at e
    cases e
    exact ⟨x, rfl, c, k _ H (Same.refl H) rfl⟩
  · rw [cIf_neg c] at e; cases e
def qIntS : List V → Hp → VK → Prop := fun xs H Q => ∃ a n, xs = [.str a] ∧ PySem.intText? a = some n ∧ a.length ≤ 640 ∧ Q (.int n) H
noncomputable def intS : Str → Option Int := fun a => cIf (a.length ≤ 640) (PySem.intText? a) none
theorem c_intS {K : PySem.W.Frag} : C1 K ma m qIntS rStr rInt intS := fun H O F x z v d h e Q k => by
  cases h
  unfold intS at e
  by_cases c : x.length ≤ 640
  · rw [cIf_pos c] at e
    exact ⟨x, z, rfl, e, c, k _ H (Same.refl H) rfl⟩
  · rw [cIf_neg c] at e; cases e
def qLenS : List V → Hp → VK → Prop := fun xs H Q => ∃ z, xs = [.str z] ∧ z.length ≤ sizeLine ∧ Q (.int z.length) H
noncomputable def lenS : Str → Option Int := fun a => cIf (a.length ≤ sizeLine) (some (a.length : Int)) none
theorem c_lenS {K : PySem.W.Frag} : C1 K ma m qLenS rStr rInt lenS := fun H O F x z v d h e Q k => by
  cases h
  unfold lenS at e
  by_cases c : x.length ≤ sizeLine
  · rw [cIf_pos c] at e
    cases e
    exact ⟨x, rfl, c, k _ H (Same.refl H) rfl⟩
  · rw [cIf_neg c] at e; cases e
/-! ### slices -/
noncomputable def dCutS (f : ε → Rs Str) (lo hi : ε → Rs (Option Int)) : ε → Rs Str := fun E => (f E).bind fun z => (lo E).bind fun l => (hi E).bind fun h => cIf (z.length ≤ sizeLine) (.ok (cutS z l h)) .bad
theorem fe_cutS {g : ε → Rs Str} {lo hi : Option Expr} {tl th : TO} {fl fh : ε → Rs (Option Int)} {p2 : Pos} (h : FE D X K R mb e te rStr g) (hl : FO D X K R lo tl fl) (hh : FO D X K R hi th fh) :
    FE D X K R m (.Subscript e (.Slice lo hi none p2) pos) (tSl rSlS te tl th) rStr (dCutS g fl fh) := by
  cases h.hK
  exact ⟨rfl, pe_slice sl_str h.pe hl.po hh.po, fun H O F E σ I Q k =>
  h.sem H O F E σ I _ ((good_bind k).mono (fun xs _ k v H1 e1 r1 => hl.sem H1 O F E σ (I.same e1) _ ((good_bind k).mono (fun l _ k H2 e2 => hh.sem H2 O F E σ (I.same (e1.trans e2)) _ ((good_bind k).mono (fun u _ k H3 e3 => by
    have r1 : v = .str xs := r1
    subst r1
    by_cases c : xs.length ≤ sizeLine
    · rw [cIf_pos c] at k
      exact ⟨xs, rfl, c, k _ H3 ((e1.trans e2).trans e3) rfl⟩
    · rw [cIf_neg c] at k; exact k.elim)
    fun c k H3 e3 => k H3 ((e1.trans e2).trans e3))) fun c k H2 e2 => k H2 (e1.trans e2))) fun _ k => k)⟩
/-! ### sign by sign -/
def chars (z : Str) : List Str := z.cps.toList.map fun c => (⟨#[c]⟩ : Str)
noncomputable def charsF : Str → Option (List Str) := fun z => cIf (z.length ≤ sizeLine) (some (chars z)) none
theorem fi_str {cm : Bool} {tg : Expr} {g : ε → Rs Str} (h : FE D X K R mb e te rStr g) : FI cm D X K R m tg e (iStr te) rStr (d1 charsF g) := by
  cases h.hK
  exact ⟨rfl, pi_str h.pe, fun H O F E σ I Q k =>
  h.sem H O F E σ I _ ((good_bind k).mono (fun z _ k v H1 e1 r1 => by
    unfold charsF at k
    by_cases c : z.length ≤ sizeLine
    · rw [cIf_pos c] at k
      refine ⟨z, r1, k ?_ _ H1 e1 fun H2 e2 _ => ⟨fun i a ha => ?_, fun i hi => ?_⟩⟩
      · unfold chars
        rw [List.length_map, Array.length_toList]
        exact c
      · unfold chars at ha
        rw [List.getElem?_map] at ha
        cases q : z.cps.toList[i]? with
        | none => rw [q] at ha; cases ha
        | some ch =>
          rw [q] at ha
          cases ha
          have hl : i < z.cps.size := by
            have := (List.getElem?_eq_some_iff.mp q).1
            rwa [Array.length_toList] at this
          refine ⟨hl, fun x H' y => ⟨y.1, ?_⟩⟩
          obtain ⟨_, ch', y1, y2⟩ := y
          have : z.cps[i]? = some ch := by rw [← q]; simp
          rw [this] at y1
          cases y1
          exact y2
      · unfold chars at hi
        rw [List.length_map, Array.length_toList] at hi
        exact hi
    · rw [cIf_neg c] at k; exact k.elim) fun _ k => k)⟩
/-! ### methods -/
def CM (K : PySem.W.Frag) (ma m : Md) (q : V → List V → Hp → VK → Prop) (ra : Rp β) (rc : Rp γ) (h : Str → β → Option γ) : Prop :=
  ∀ (H : Hp) (O F : List Addr) (x : Str) (y : β) (z : γ) (w : V), Dom O F H → ra.rp K (hidM ma O F H) y w → h x y = some z → ∀ Q : VK, (∀ u H', Same H H' → rc.rp K (hidM m O F H') z u → Q u H') → q (.str x) [w] H Q
theorem fe_m1 {id : String} {name : Str} {apos : Pos} {q : V → List V → Hp → VK → Prop} {h : Str → β → Option γ} {fo : ε → Rs Str} {fa : ε → Rs β} (slot : PySem.Slot "str" name id) (ty : typeOf (.builtin id) = pure (.type "method_descriptor")) (rule : MtR X id q) (hq : CM K ma m q ra rc h) (ho : FE D X K R mb o to rStr fo) (ha : FE D X K R ma e te ra fa)
    (hs : starEach [e] X.env = [(false, eval e X.env)] := by rfl) (hbase : attributeBase o name X.env (eval o X.env) = eval o X.env := by rfl) (hline : (apos.endLine == pos.line) = true := by rfl) :
    FE D X K R m (.Call (.Attribute o name apos) [e] [] pos) (tM1 q to te) rc (d2 h fo fa) := by
  cases ho.hK
  exact ⟨rfl, pe_m1 slot ty rule ho.pe ha.pe hs hbase hline, fun H O F E σ I Q k => ho.sem H O F E σ I _ ((good_bind k).mono (fun x _ k v H1 e1 r1 => by
    have r1 : v = .str x := r1
    subst r1
    refine ⟨⟨x, rfl⟩, ha.sem H1 O F E σ (I.same e1) _ ((good_bind k).mono (fun y _ k w H2 e2 r2 => ?_) fun c k H2 e2 => k H2 (e1.trans e2))⟩
    cases eh : h x y with
    | none => rw [eh] at k; exact k.elim
    | some z =>
      rw [eh] at k
      exact hq H2 O F x y z w (Dom.same I.dom (e1.trans e2)) r2 eh Q fun u H3 e3 r3 => k u H3 ((e1.trans e2).trans e3) r3) fun c k => k)⟩
theorem paired_strs {K : PySem.W.Frag} {H : Hp} : ∀ (ys : List Str), Paired (rStr.rp K H) ys (ys.map V.str)
  | [] => .nil
  | _ :: ys => .cons rfl (paired_strs ys)
theorem paired_str {K : PySem.W.Frag} {H : Hp} : ∀ {xs : List Str} {vs : List V}, Paired (rStr.rp K H) xs vs → vs = xs.map V.str
  | _, _, .nil => rfl
  | _, _, .cons r t => by
    have e := paired_str t
    have r : _ = V.str _ := r
    rw [e, r, List.map_cons]
def qSplit : V → List V → Hp → VK → Prop := fun x xs H Q => ∃ a b, x = .str a ∧ xs = [.str b] ∧ (b.length == 0) = false ∧ a.length + 2 ≤ sizeLine ∧ rNewStrs (Txt.split a b) H Q
noncomputable def splitF : Str → Str → Option (List Str) := fun a b => cIf ((b.length == 0) = false ∧ a.length + 2 ≤ sizeLine ∧ (Txt.split a b).length ≤ sizeLine) (some (Txt.split a b)) none
theorem c_split {K : PySem.W.Frag} : CM K ma m qSplit rStr (rList rStr) splitF := fun H O F x y z w d h e Q k => by
  cases h
  unfold splitF at e
  by_cases c : (y.length == 0) = false ∧ x.length + 2 ≤ sizeLine ∧ (Txt.split x y).length ≤ sizeLine
  · rw [cIf_pos c] at e
    cases e
    refine ⟨x, y, rfl, rfl, c.1, c.2.1, fun p hp => ?_⟩
    have s := Fx.same_upd (o := .lst ((Txt.split x y).map V.str)) hp
    exact k _ _ s ⟨p, _, rfl, hidM_new d hp, c.2.2, paired_strs _⟩
  · rw [cIf_neg c] at e; cases e
def qJoin (K : PySem.W.Frag) : V → List V → Hp → VK → Prop := fun x xs H Q => ∃ a p, ∃ ys : List Str, x = .str a ∧ xs = [.ref p] ∧ (SqL K H p (ys.map V.str) ∨ SqT K H p (ys.map V.str)) ∧
      (ys.map (·.length)).sum + ys.length * a.length ≤ 16777216 ∧ Q (.str (Txt.join a ys)) H
noncomputable def joinF : Str → List Str → Option Str := fun a ys => cIf ((ys.map (·.length)).sum + ys.length * a.length ≤ 16777216) (some (Txt.join a ys)) none
theorem c_join {K : PySem.W.Frag} : CM K ma m (qJoin K) (rList rStr) rStr joinF := fun H O F x y z w d h e Q k => by
  obtain ⟨p, vs, rfl, hp, hl, hv⟩ := h
  unfold joinF at e
  by_cases c : (y.map (·.length)).sum + y.length * x.length ≤ 16777216
  · rw [cIf_pos c] at e
    cases e
    exact ⟨x, p, y, rfl, rfl, .inl (by rw [← paired_str hv]; exact .inl (.inl (hid_le.get _ _ hp))), c, k _ H (Same.refl H) rfl⟩
  · rw [cIf_neg c] at e; cases e
def qStarts : V → List V → Hp → VK → Prop := fun x xs H Q => ∃ a b, x = .str a ∧ xs = [.str b] ∧ Q (.bl (Txt.startswith a b)) H
def startsF : Str → Str → Option Bool := fun a b => some (Txt.startswith a b)
theorem c_starts {K : PySem.W.Frag} : CM K ma m qStarts rStr rBool startsF := fun H O F x y z w d h e Q k => by
  cases h; cases e
  exact ⟨x, y, rfl, rfl, k _ H (Same.refl H) rfl⟩
def qPart : V → List V → Hp → VK → Prop := fun x xs H Q => ∃ a b, x = .str a ∧ xs = [.str b] ∧ (b.length == 0) = false ∧ a.length ≤ sizeLine ∧
      ∀ p, H p = none → Q (.ref p) (upd H p (.tup [.str (Txt.partition a b).1, .str (Txt.partition a b).2.1, .str (Txt.partition a b).2.2]))
abbrev rStr3 : Rp (Str × Str × Str × Unit) := rTup (pC true rStr (pC true rStr (pC true rStr pNil)))
noncomputable def partF : Str → Str → Option (Str × Str × Str × Unit) := fun a b => cIf ((b.length == 0) = false ∧ a.length ≤ sizeLine) (some ((Txt.partition a b).1, (Txt.partition a b).2.1, (Txt.partition a b).2.2, ())) none
theorem c_part {K : PySem.W.Frag} : CM K ma m qPart rStr rStr3 partF := fun H O F x y z w d h e Q k => by
  cases h
  unfold partF at e
  by_cases c : (y.length == 0) = false ∧ x.length ≤ sizeLine
  · rw [cIf_pos c] at e
    cases e
    refine ⟨x, y, rfl, rfl, c.1, c.2, fun p hp => ?_⟩
    have s := Fx.same_upd (o := .tup [.str (Txt.partition x y).1, .str (Txt.partition x y).2.1, .str (Txt.partition x y).2.2]) hp
    exact k _ _ s ⟨p, _, rfl, hidM_new d hp, _, _, rfl, rfl, _, _, rfl, rfl, _, _, rfl, rfl, rfl⟩
  · rw [cIf_neg c] at e; cases e
/-! ### a text of the module -/
theorem fe_globS {x : Str} {t : Str} {tk : Tok} (hg : Gl X x) (hm : X.mg x = some (.str t tk)) (hd : (x == ("__debug__" : Str)) = false := by decide) (hK : X.K = K := by rfl) : FE D X K R m (.Name x pos) (tC (.str t)) rStr (dC t) := by
  cases hK
  exact ⟨rfl, pe_glob hg hm ⟨tk, rfl⟩ hd, fun H _ _ _ _ _ _ q => q _ H (Same.refl H) rfl⟩
end
end Fx

/-! Fx39: (text + e).replace(text, [text, text, text][e]). -/
namespace L2
open PySem PySem.Spec PyProof.Rows
def z3 (z0 z1 z2 : Str) (i : Int) : Option Str := atI [z0, z1, z2] i
def tRepl3 (K : PySem.W.Frag) (r : R2) (a : Str) (tb : TE) (y z0 z1 z2 : Str) (ti : TE) : TE := fun σ H Q => tb σ H fun xb H1 => r (.str a) xb H1 fun v H2 => ∃ x, v = .str x ∧ ∀ (p : Addr) (o : Obj), H2 p = none →
  ti σ (upd H2 p (.frz o (.lst [.str z0, .str z1, .str z2]))) fun iv H4 => ∃ (i : Int) (z : Str), iv = .int i ∧ 0 ≤ i ∧ i < 3 ∧ H4 p = some (.frz o (.lst [.str z0, .str z1, .str z2])) ∧ z3 z0 z1 z2 i = some z ∧ x.length + (x.length + 1) * z.length ≤ 16777216 ∧ Q (.str (Txt.replace x y z)) H4
theorem tk0 (t : Nat) : (t + 1 : Nat) ≠ 0 := by omega
theorem tk1 (t : Nat) : t ≠ (t + 1 : Nat) := by omega
theorem tk2 (t : Nat) : t ≠ (t + 1 + 1 : Nat) := by omega
theorem tk3 (t : Nat) : t ≠ (t + 1 + 1 + 1 : Nat) := by omega
theorem tk4 {t : Nat} (h : 1 ≤ t) : t ≠ 0 := by omega
theorem tk5 {t u k : Nat} (h : t + 1 ≤ u) (h2 : u ≤ k) : 1 ≤ k := by omega
theorem pe_repl3 {X : Cx} {r : R2} {b ix : Expr} {tb ti : TE} {a y z0 z1 z2 : Str} {ja jy j0 j1 j2 : Nat} {pa pb py p0 p1 p2 pl ps apos pos : Pos} (ho : OpR X (binaryOp .Add) r) (hb : PE X b tb) (hi : PE X ix ti) (hs : PlainIx ix)
    (h0 : (y == z0) = false) (h1 : (y == z1) = false) (h2 : (y == z2) = false)
    (hst : starEach [.Constant (.str y) jy py, .Subscript (.List [.Constant (.str z0) j0 p0, .Constant (.str z1) j1 p1, .Constant (.str z2) j2 p2] pl) ix ps] X.env =
      [(false, eval (.Constant (.str y) jy py) X.env), (false, eval (.Subscript (.List [.Constant (.str z0) j0 p0, .Constant (.str z1) j1 p1, .Constant (.str z2) j2 p2] pl) ix ps) X.env)] := by rfl)
    (hbase : attributeBase (.BinOp (.Constant (.str a) ja pa) .Add b pb) "replace" X.env (eval (.BinOp (.Constant (.str a) ja pa) .Add b pb) X.env) = eval (.BinOp (.Constant (.str a) ja pa) .Add b pb) X.env := by rfl) (hline : (apos.endLine == pos.line) = true := by rfl) :
    PE X (.Call (.Attribute (.BinOp (.Constant (.str a) ja pa) .Add b pb) "replace" apos) [.Constant (.str y) jy py, .Subscript (.List [.Constant (.str z0) j0 p0, .Constant (.str z1) j1 p1, .Constant (.str z2) j2 p2] pl) ix ps] [] pos) (tRepl3 X.K r a tb y z0 z1 z2 ti) := by
  refine ⟨fun pins s σ H Q I h => ?_⟩
  refine PySem.Call_method2 hbase hst hline ?_
  refine wpAny_BinOp (Calls.Constant_str ?_)
  refine wpAny_mono (PySem.wpAny_toks (hb.run pins _ σ H _ (I.tok _) h)) (fun vb s2 q => ?_) fun _ _ z => z.2
  obtain ⟨hk, xb, H1, I1, r1, q1⟩ := q
  refine wpAny_mono (PySem.wpAny_toks (ho pins s2 σ H1 (.str a) xb (.str a s.toks) vb _ I1 ⟨_, rfl⟩ r1 q1)) (fun v s3 q => ?_) fun _ _ z => z.2
  obtain ⟨hk2, v', H2, I2, r2, x, e1, q⟩ := q
  subst e1
  obtain ⟨tx, e2⟩ := r2
  subst e2
  have hk : s.toks + 1 ≤ s2.toks := hk
  have hk3 : 1 ≤ s3.toks := tk5 hk hk2
  refine ⟨"str", _, PySem.F.plainAttrs_str, PySem.F.slot_str_replace, PySem.F.type_str_replace, typeIs_str _ _ _, (fun _ e => nomatch e), Calls.callWith_builtin rfl (Calls.evalArgs_plain (Calls.spliced_cons ?_))⟩
  refine Calls.Constant_str (Calls.spliced_cons ?_)
  refine Subscript_ (wpAny_List_spliced ?_)
  show wpAny _ _ (spliced ((false, eval (.Constant (.str z0) j0 p0) X.env) :: backTo pl (starEach [.Constant (.str z1) j1 p1, .Constant (.str z2) j2 p2] X.env))) _ _ _
  refine Calls.spliced_cons (Calls.Constant_str ?_)
  show wpAny _ _ (spliced ((false, eval (.Constant (.str z1) j1 p1) X.env) :: backTo pl (starEach [.Constant (.str z2) j2 p2] X.env))) _ _ _
  refine Calls.spliced_cons (Calls.Constant_str ?_)
  show wpAny _ _ (spliced ((false, eval (.Constant (.str z2) j2 p2) X.env) :: backTo pl (starEach [] X.env))) _ _ _
  refine Calls.spliced_cons (Calls.Constant_str (Calls.spliced_nil ?_))
  have hz : (3 : Nat) ≤ sizeLine := by decide
  refine ⟨hz, ?_⟩
  have hp : H2 s3.heap.objs.size = none := I2.hok.fresh (Nat.le_refl _)
  have I3 : Inv X pins σ (upd H2 s3.heap.objs.size (.frz { cls := .type "list", data := .seq #[.str z0 (s3.toks + 1), .str z1 (s3.toks + 1 + 1), .str z2 (s3.toks + 1 + 1 + 1)] 0 } (.lst [.str z0, .str z1, .str z2]))) { s3 with heap := s3.heap.push { cls := .type "list", data := .seq #[.str z0 (s3.toks + 1), .str z1 (s3.toks + 1 + 1), .str z2 (s3.toks + 1 + 1 + 1)] 0 }, toks := s3.toks + 1 + 1 + 1 + 1 } :=
    I2.laid (t' := s3.toks + 1 + 1 + 1 + 1) (fun b u e => Heap.get?_push_of_some _ e) (Nat.le_refl _) ⟨Heap.get?_push_size _ rfl, hz, [.str z0 (s3.toks + 1), .str z1 (s3.toks + 1 + 1), .str z2 (s3.toks + 1 + 1 + 1)], 0, .cons ⟨_, rfl⟩ (.cons ⟨_, rfl⟩ (.cons ⟨_, rfl⟩ .nil)), Heap.get?_push_size _ rfl⟩
  refine thn (hi.run pins _ σ _ _ I3 (q _ _ hp)) fun iv s4 ⟨iv', H4, I4, r4, i, z, e4, i0, i3, hf, hzz, hbd, q4⟩ => ?_
  subst e4
  obtain ⟨ti4, e5⟩ := r4
  subst e5
  obtain ⟨h5, _⟩ := I4.hok _ _ hf
  have hl : s4.heap.IsList s3.heap.objs.size #[.str z0 (s3.toks + 1), .str z1 (s3.toks + 1 + 1), .str z2 (s3.toks + 1 + 1 + 1)] := ⟨_, h5, rfl, 0, rfl⟩
  have fin : ∀ (zz : Str) (u : Tok), (#[.str z0 (s3.toks + 1), .str z1 (s3.toks + 1 + 1), .str z2 (s3.toks + 1 + 1 + 1)] : Array Value)[i.toNat]? = some (.str zz u) → zz = z → u ≠ 0 → s3.toks ≠ u → (y == zz) = false →
      wpAny (model X.prog X.w) X.A (subscriptTail (.List [.Constant (.str z0) j0 p0, .Constant (.str z1) j1 p1, .Constant (.str z2) j2 p2] pl) ix (.ref s3.heap.objs.size) (.int i ti4)) (fun u s' => wpAny (model X.prog X.w) X.A (spliced []) (fun vs s'' => wpAny (model X.prog X.w) X.A (call (.builtin "str.replace") (.str x tx :: .str y s3.toks :: u :: vs)) (EP X pins σ Q) X.xe s'') X.xe s') X.xe s4 := fun zz u hx ez hu hne hyz => by
    subst ez
    refine item_listR hl i0 (by omega) hx ?_ (hs _ _)
    exact Calls.spliced_nil (PySem.SC.replace (tk4 hk3) hu hne hyz hbd fun t' k => ⟨.str (Txt.replace x y zz), H4, I4.tok k, ⟨t', rfl⟩, q4⟩)
  have hi3 : i = 0 ∨ i = 1 ∨ i = 2 := by omega
  rcases hi3 with rfl | rfl | rfl
  · have ez : z0 = z := Option.some.inj hzz
    exact fin z0 _ rfl ez (tk0 s3.toks) (tk1 s3.toks) h0
  · have ez : z1 = z := Option.some.inj hzz
    exact fin z1 _ rfl ez (tk0 (s3.toks + 1)) (tk2 s3.toks) h1
  · have ez : z2 = z := Option.some.inj hzz
    exact fin z2 _ rfl ez (tk0 (s3.toks + 1 + 1)) (tk3 s3.toks) h2
end L2
namespace Fx
open PySem PySem.Spec L2
variable [Tbs]
section
variable {ε : Type} {D : EnvD ε} {X : Cx} {K : PySem.W.Frag} {R : Str → Hp → Prop} {m ma mb : Md} {b ix : Expr} {tb ti : TE}
noncomputable def replG (x y z0 z1 z2 : Str) (i : Int) : Option Str := cIf (0 ≤ i ∧ i < 3) ((z3 z0 z1 z2 i).bind fun z => cIf (x.length + (x.length + 1) * z.length ≤ 16777216) (some (Txt.replace x y z)) none) none
theorem replG_some {x y z0 z1 z2 u : Str} {i : Int} (h : replG x y z0 z1 z2 i = some u) : 0 ≤ i ∧ i < 3 ∧ ∃ z, z3 z0 z1 z2 i = some z ∧ x.length + (x.length + 1) * z.length ≤ 16777216 ∧ u = Txt.replace x y z := by
  unfold replG at h
  by_cases c : 0 ≤ i ∧ i < 3
  · rw [cIf_pos c] at h
    cases e : z3 z0 z1 z2 i with
    | none => rw [e] at h; cases h
    | some z =>
      rw [e] at h
      have h : cIf (x.length + (x.length + 1) * z.length ≤ 16777216) (some (Txt.replace x y z)) none = some u := h
      by_cases d : x.length + (x.length + 1) * z.length ≤ 16777216
      · rw [cIf_pos d] at h
        exact ⟨c.1, c.2, z, rfl, d, (Option.some.inj h).symm⟩
      · rw [cIf_neg d] at h; cases h
  · rw [cIf_neg c] at h; cases h
noncomputable def dRepl3 (a y z0 z1 z2 : Str) (fb : ε → Rs Str) (fi : ε → Rs Int) : ε → Rs Str := fun E => (fb E).bind fun xb => (ofO (catS a xb)).bind fun x => (fi E).bind fun i => ofO (replG x y z0 z1 z2 i)
theorem fe_repl3 {a y z0 z1 z2 : Str} {ja jy j0 j1 j2 : Nat} {pa pb py p0 p1 p2 pl ps apos pos : Pos} {fb : ε → Rs Str} {fi : ε → Rs Int} (hb : FE D X K R mb b tb rStr fb) (hi : FE D X K R ma ix ti rInt fi) (hs : PlainIx ix := by intro _ _; rfl)
    (h0 : (y == z0) = false := by decide) (h1 : (y == z1) = false := by decide) (h2 : (y == z2) = false := by decide)
    (hst : starEach [.Constant (.str y) jy py, .Subscript (.List [.Constant (.str z0) j0 p0, .Constant (.str z1) j1 p1, .Constant (.str z2) j2 p2] pl) ix ps] X.env =
      [(false, eval (.Constant (.str y) jy py) X.env), (false, eval (.Subscript (.List [.Constant (.str z0) j0 p0, .Constant (.str z1) j1 p1, .Constant (.str z2) j2 p2] pl) ix ps) X.env)] := by rfl)
    (hbase : attributeBase (.BinOp (.Constant (.str a) ja pa) .Add b pb) "replace" X.env (eval (.BinOp (.Constant (.str a) ja pa) .Add b pb) X.env) = eval (.BinOp (.Constant (.str a) ja pa) .Add b pb) X.env := by rfl) (hline : (apos.endLine == pos.line) = true := by rfl) :
    FE D X K R m (.Call (.Attribute (.BinOp (.Constant (.str a) ja pa) .Add b pb) "replace" apos) [.Constant (.str y) jy py, .Subscript (.List [.Constant (.str z0) j0 p0, .Constant (.str z1) j1 p1, .Constant (.str z2) j2 p2] pl) ix ps] [] pos)
      (tRepl3 K qCatS a tb y z0 z1 z2 ti) rStr (dRepl3 a y z0 z1 z2 fb fi) := by
  cases hb.hK
  exact ⟨rfl, pe_repl3 op_add_str hb.pe hi.pe hs h0 h1 h2 hst hbase hline, fun H O F E σ I Q k => hb.sem H O F E σ I _ ((good_bind k).mono (fun xb _ k v H1 e1 r1 => by
    have r1 : v = .str xb := r1
    subst r1
    have k := good_bind k
    cases ec : catS a xb with
    | none => rw [ec] at k; exact k.elim
    | some x =>
      rw [ec] at k
      have k : Good ((fi E).bind fun i => ofO (replG x y z0 z1 z2 i)) _ _ := k
      unfold catS at ec
      by_cases cl : a.length + xb.length ≤ sizeLine
      · rw [cIf_pos cl] at ec
        have ec := Option.some.inj ec
        refine ⟨a, xb, rfl, rfl, cl, _, rfl, fun p o hp => ?_⟩
        subst ec
        have s := Fx.same_upd (o := .frz o (.lst [.str z0, .str z1, .str z2])) hp
        refine hi.sem _ O F E σ (I.same (e1.trans s)) _ ((good_bind k).mono (fun i _ k iv H4 e4 r4 => ?_) fun c k H4 e4 => k H4 ((e1.trans s).trans e4))
        have r4 : iv = .int i := r4
        subst r4
        cases eg : replG (a ++ xb) y z0 z1 z2 i with
        | none => rw [eg] at k; exact k.elim
        | some u =>
          rw [eg] at k
          obtain ⟨i0, i3, z, ez, hbd, rfl⟩ := replG_some eg
          exact ⟨i, z, rfl, i0, i3, e4.wk.get _ _ (upd_same) nt_frz, ez, hbd, k _ H4 ((e1.trans s).trans e4) rfl⟩
      · rw [cIf_neg cl] at ec; cases ec) fun c k => k)⟩
end
end Fx

/-! Fx40: dicts whose keys are ints or texts: read, asked, stored to; a, b[i] = two things. -/
namespace Fx
open PySem PySem.Spec L2
section
variable {κ α : Type}
/-- keys of one kind -/
structure Ky (κ : Type) where
  key : κ → Key
  v : Rp κ
  kv : ∀ {K : PySem.W.Frag} {H : Hp} {a : κ} {w : V}, v.rp K H a w → w = kV (key a)
  inj : ∀ {a b : κ}, key a = key b → a = b
def kyI : Ky Int := ⟨.inl, rInt, fun h => h, fun h => Sum.inl.inj h⟩
def kyS : Ky Str := ⟨.inr, rStr, fun h => h, fun h => Sum.inr.inj h⟩
variable [DecidableEq κ]
def valD (kvs : List (κ × α)) (k : κ) : Option α := (kvs.find? fun kv => decide (kv.1 = k)).map (·.2)
def putD (kvs : List (κ × α)) (k : κ) (a : α) : List (κ × α) := if (kvs.any fun kv => decide (kv.1 = k)) = true then kvs.map fun kv => if kv.1 = k then (kv.1, a) else kv else kvs ++ [(k, a)]
def hasD (kvs : List (κ × α)) (k : κ) : Bool := (valD kvs k).isSome
def DRel (y : Ky κ) (r : Rp α) (K : PySem.W.Frag) (H : Hp) (a : κ × α) (b : Key × V) : Prop := b.1 = y.key a.1 ∧ r.rp K H a.2 b.2
theorem DRel.mono {y : Ky κ} {r : Rp α} {K : PySem.W.Frag} {H H' : Hp} (e : Wk H H') {a : κ × α} {b : Key × V} (h : DRel y r K H a b) : DRel y r K H' a b := ⟨h.1, r.mono e h.2⟩
theorem val_rel {y : Ky κ} {r : Rp α} {K : PySem.W.Frag} {H : Hp} {k : κ} : ∀ {kvs : List (κ × α)} {vs : List (Key × V)}, Paired (DRel y r K H) kvs vs →
    (valD kvs k = none ∧ valV vs (y.key k) = none) ∨ ∃ a v, valD kvs k = some a ∧ valV vs (y.key k) = some v ∧ r.rp K H a v
  | _, _, .nil => .inl ⟨rfl, rfl⟩
  | a :: as, b :: bs, .cons h t => by
    by_cases c : a.1 = k
    · refine .inr ⟨a.2, b.2, ?_, valV_pos (by rw [h.1, c]), h.2⟩
      unfold valD
      rw [List.find?_cons_of_pos (by simp [c])]
      rfl
    · have e1 : valD (a :: as) k = valD as k := by
        unfold valD
        rw [List.find?_cons_of_neg (by simp [c])]
      have e2 : valV (b :: bs) (y.key k) = valV bs (y.key k) := valV_neg fun z => c (y.inj (h.1 ▸ z))
      rw [e1, e2]
      exact val_rel t
theorem any_rel {y : Ky κ} {r : Rp α} {K : PySem.W.Frag} {H : Hp} {k : κ} : ∀ {kvs : List (κ × α)} {vs : List (Key × V)}, Paired (DRel y r K H) kvs vs → (kvs.any fun kv => decide (kv.1 = k)) = vs.any fun kv => decide (kv.1 = y.key k)
  | _, _, .nil => rfl
  | a :: as, b :: bs, .cons h t => by
    rw [List.any_cons, List.any_cons, any_rel t, h.1]
    congr 1
    exact decide_eq_decide.mpr ⟨fun z => by rw [z], fun z => y.inj z⟩
theorem map_rel {y : Ky κ} {r : Rp α} {K : PySem.W.Frag} {H : Hp} {k : κ} {x : α} {v : V} (hv : r.rp K H x v) : ∀ {kvs : List (κ × α)} {vs : List (Key × V)}, Paired (DRel y r K H) kvs vs →
    Paired (DRel y r K H) (kvs.map fun kv => if kv.1 = k then (kv.1, x) else kv) (vs.map fun kv => if kv.1 = y.key k then (kv.1, v) else kv)
  | _, _, .nil => .nil
  | a :: as, b :: bs, .cons h t => by
    refine .cons ?_ (map_rel hv t)
    show DRel y r K H (if a.1 = k then (a.1, x) else a) (if b.1 = y.key k then (b.1, v) else b)
    by_cases c : a.1 = k
    · have c2 : b.1 = y.key k := by rw [h.1, c]
      rw [if_pos c, if_pos c2]
      exact ⟨h.1, hv⟩
    · rw [if_neg c, if_neg fun z => c (y.inj (h.1 ▸ z))]
      exact h
theorem put_rel {y : Ky κ} {r : Rp α} {K : PySem.W.Frag} {H : Hp} {k : κ} {x : α} {v : V} (hv : r.rp K H x v) {kvs : List (κ × α)} {vs : List (Key × V)} (h : Paired (DRel y r K H) kvs vs) :
    Paired (DRel y r K H) (putD kvs k x) (putK vs (y.key k) v) := by
  unfold putD putK
  rw [← any_rel h]
  split
  · exact map_rel hv h
  · exact Paired.app h (.cons ⟨rfl, hv⟩ .nil)
theorem putD_len (kvs : List (κ × α)) (k : κ) (a : α) : (putD kvs k a).length ≤ kvs.length + 1 := by
  unfold putD
  split
  · rw [List.length_map]; omega
  · rw [List.length_append]; exact Nat.le_refl _
def rDict (y : Ky κ) (r : Rp α) : Rp (List (κ × α)) :=
  ⟨fun K H kvs v => ∃ a vs, v = .ref a ∧ H a = some (.dK vs) ∧ kvs.length ≤ sizeLine ∧ Paired (DRel y r K H) kvs vs, fun e ⟨a, vs, h1, h2, hl, h3⟩ => ⟨a, vs, h1, e.get _ _ h2, hl, Paired.imp h3 fun _ _ q => q.mono e⟩⟩
def oDict (y : Ky κ) (r : Rp α) : Ro (List (κ × α)) where
  rp := fun K H Hs kvs v F => ∃ p vs, v = .ref p ∧ F = [p] ∧ H p = some (.dK vs) ∧ kvs.length ≤ sizeLine ∧ Paired (DRel y r K Hs) kvs vs
  sh := rDict y r
  frame := fun ⟨p, vs, h1, h2, h3, hl, h4⟩ e k => ⟨p, vs, h1, h2, k p (by rw [h2]; simp) _ h3 nt_dK, hl, Paired.imp h4 fun _ _ q => q.mono e⟩
  toSh := fun ⟨p, vs, h1, h2, h3, hl, h4⟩ e => ⟨p, vs, h1, h3, hl, Paired.imp h4 fun _ _ q => q.mono e⟩
theorem nn_dict {y : Ky κ} {r : Rp α} : ∀ (K : PySem.W.Frag) (H : Hp) (x : List (κ × α)) (v : V), (rDict y r).rp K H x v → v ≠ .non := fun K H x v ⟨p, vs, h1, _⟩ z => by rw [h1] at z; cases z
end
variable [Tbs]
section
variable {ε κ α β ρ : Type} [DecidableEq κ] {D : EnvD ε} {X : Cx} {K : PySem.W.Frag} {R : Str → Hp → Prop} {rr : RetD ρ} {m ma mb : Md} {e o ix a b : Expr} {te ta tb ti : TE} {r : Rp α} {y : Ky κ} {pos pos' : Pos}
/-! ### read, asked -/
def qDGet : R2 := fun x k H Q => ∃ a v, x = .ref a ∧ DGet H a k (some v) ∧ Q v H
def qDIn : R2 := fun k x H Q => ∃ a o, x = .ref a ∧ DGet H a k o ∧ Q (.bl o.isSome) H
def qDNotIn : R2 := fun k x H Q => ∃ a o, x = .ref a ∧ DGet H a k o ∧ Q (.bl (!o.isSome)) H
def inD (k : κ) (kvs : List (κ × α)) : Option Bool := some (valD kvs k).isSome
def notInD (k : κ) (kvs : List (κ × α)) : Option Bool := some (!(valD kvs k).isSome)
theorem dget_at {K : PySem.W.Frag} {H : Hp} {O F : List Addr} {x : List (κ × α)} {k : κ} {v w : V} (h1 : (rDict y r).rp K (hidM m O F H) x v) (h2 : y.v.rp K (hidM mb O F H) k w) : ∃ p vs, v = .ref p ∧ DGet H p w (valV vs (y.key k)) ∧ Paired (DRel y r K (hidM m O F H)) x vs := by
  obtain ⟨p, vs, e1, e2, _, e4⟩ := h1
  rw [y.kv h2]
  exact ⟨p, vs, e1, .k (hidM_low.get _ _ e2), e4⟩
theorem b_dget {K : PySem.W.Frag} : Bin K m mb m qDGet (rDict y r) y.v r valD := fun H O F x k z v w d h1 h2 e Q q => by
  obtain ⟨p, vs, rfl, g, pr⟩ := dget_at h1 h2
  rcases val_rel (k := k) pr with ⟨z1, _⟩ | ⟨a, u, z1, z2, z3⟩
  · rw [e] at z1; cases z1
  · rw [e] at z1
    cases z1
    rw [z2] at g
    exact ⟨p, u, rfl, g, q u H (Same.refl H) z3⟩
theorem b_din {K : PySem.W.Frag} : Bin K mb m ma qDIn y.v (rDict y r) rBool inD := fun H O F k x z w v d h2 h1 e Q q => by
  obtain ⟨p, vs, rfl, g, pr⟩ := dget_at h1 h2
  refine ⟨p, _, rfl, g, q _ H (Same.refl H) ?_⟩
  unfold inD at e
  cases e
  show V.bl _ = V.bl _
  rcases val_rel (k := k) pr with ⟨z1, z2⟩ | ⟨a, u, z1, z2, z3⟩
  · rw [z1, z2]; rfl
  · rw [z1, z2]; rfl
theorem b_dnotin {K : PySem.W.Frag} : Bin K mb m ma qDNotIn y.v (rDict y r) rBool notInD := fun H O F k x z w v d h2 h1 e Q q => by
  obtain ⟨p, vs, rfl, g, pr⟩ := dget_at h1 h2
  refine ⟨p, _, rfl, g, q _ H (Same.refl H) ?_⟩
  unfold notInD at e
  cases e
  show V.bl _ = V.bl _
  rcases val_rel (k := k) pr with ⟨z1, z2⟩ | ⟨a, u, z1, z2, z3⟩
  · rw [z1, z2]; rfl
  · rw [z1, z2]; rfl
theorem fe_dget {f : ε → Rs (List (κ × α))} {g : ε → Rs κ} (hu : X.A.units + 65 < cLine) (ha : FE D X K R m a ta (rDict y r) f) (hb : FE D X K R mb b tb y.v g) (hs : NoSl b := by intro _ _; rfl) : FE D X K R m (.Subscript a b pos) (tDGet ta tb) r (d2 valD f g) := by
  cases ha.hK
  exact ⟨rfl, pe_dget (by omega) ha.pe hb.pe hs, SemE.bin b_dget ha.sem hb.sem⟩
theorem fe_din {f : ε → Rs (List (κ × α))} {g : ε → Rs κ} (hu : X.A.units + 65 < cLine) (hb : FE D X K R mb b tb y.v g) (ha : FE D X K R m a ta (rDict y r) f) (hm : behindInMarks .In a = false := by first | exact nomark _ | rfl) : FE D X K R ma (.Compare b [.In] [a] pos) (tDIn tb ta) rBool (d2 inD g f) := by
  cases ha.hK
  exact ⟨rfl, pe_cmp (pc_din (by omega) hb.pe ha.pe) hm, SemE.bin b_din hb.sem ha.sem⟩
theorem fe_dnotin {f : ε → Rs (List (κ × α))} {g : ε → Rs κ} (hu : X.A.units + 65 < cLine) (hb : FE D X K R mb b tb y.v g) (ha : FE D X K R m a ta (rDict y r) f) (hm : behindInMarks .NotIn a = false := by first | exact nomark _ | rfl) : FE D X K R ma (.Compare b [.NotIn] [a] pos) (tDNotIn tb ta) rBool (d2 notInD g f) := by
  cases ha.hK
  exact ⟨rfl, pe_cmp (pc_dnotin (by omega) hb.pe ha.pe) hm, SemE.bin b_dnotin hb.sem ha.sem⟩

/-! ### owned -/
structure OD (D : EnvD ε) (i : Nat) (y : Ky κ) (r : Rp α) (gt : ε → Option (List (κ × α))) (pt : ε → Option (List (κ × α)) → ε) : Prop where
  dct : ∀ {K : PySem.W.Frag} {H : Hp} {O F : List Addr} {E : ε} {σ : L2.St}, RelF D K H O F E σ → ∀ {xs : List (κ × α)}, gt E = some xs → ∃ q vs, σ[i]? = some (some (.ref q)) ∧ H q = some (.dK vs) ∧ xs.length ≤ sizeLine ∧ q ∈ F ∧ Paired (DRel y r K (hid (O ++ F) H)) xs vs ∧
    ∀ ys ws, ys.length ≤ sizeLine → Paired (DRel y r K (hid (O ++ F) H)) ys ws → Step F H F (upd H q (.dK ws)) ∧ RelF D K (upd H q (.dK ws)) O F (pt E (some ys)) σ
  new : ∀ {K : PySem.W.Frag} {H H1 : Hp} {O F F' : List Addr} {E : ε} {σ : L2.St} {xs : List (κ × α)} {v : V}, RelF D K H O F E σ → Same H H1 → (∀ q ∈ F', H q = none) → F'.Nodup → (∀ q ∈ F', ∃ u, H1 q = some u) → (oDict y r).rp K H1 (hid (O ++ F ++ F') H1) xs v F' →
    ∃ F2, Step F H F2 H1 ∧ RelF D K H1 O F2 (pt E (some xs)) (σ.set i (some v))
theorem od_o {i : Nat} {gt : ε → Option (List (κ × α))} {pt : ε → Option (List (κ × α)) → ε} (L : Ln D D i (sO (oDict y r)) (sO (oDict y r)) gt pt) : OD D i y r gt pt := by
  refine ⟨fun {K H O F E σ} I {xs} hx => ?_, fun {K H H1 O F F' E σ xs v} I e hn nd dm hv => ?_⟩
  · obtain ⟨F1, w, sub, nd1, hw, hs, cl⟩ := RelF.slot L I
    rw [hx] at hs
    obtain ⟨v, rfl, q, vs, e2, e3, e4, e5, e6⟩ := hs.2 _ rfl
    subst e2 e3
    have hq : q ∈ F := sub q (by simp)
    refine ⟨q, vs, hw, e4, e5, hq, e6, fun ys ws hl hpr => ?_⟩
    obtain ⟨F2, eqF, m2, m1, st, fin⟩ := cl (upd H q (.dK ws)) [q] (stab_of e4 nt_dK fun c x z => by unfold LamX.CodeO at z; cases z) (fun a ha => .inl ha) nd1 (fun a ha => by
      have : a = q := by simpa using ha
      rw [this]; exact ⟨_, upd_same⟩)
    have e := eqF rfl
    subst e
    have r2 := fin (some ys) (some (.ref q)) ⟨(fun z => nomatch z), fun a ha => ⟨_, rfl, by cases ha; exact ⟨q, ws, rfl, rfl, upd_same, hl, Paired.imp hpr fun _ _ h => h.mono (hid_upd_in hq)⟩⟩⟩
    rw [set_self hw] at r2
    exact ⟨st, r2⟩
  · obtain ⟨F1, w, sub, nd1, hw, hs, cl⟩ := RelF.slot L I
    obtain ⟨F2, eqF, m2, m1, st, fin⟩ := cl H1 F' (.of_same e) (fun q hq => .inr (hn q hq)) nd dm
    have fr : Wk (hid (O ++ F ++ F') H1) (hid (O ++ F2) H1) := hid_sub fun q hq => by
      rcases List.mem_append.mp hq with z | z
      · simp [z]
      · rcases m2 q z with z | z
        · simp [z]
        · simp [z.1]
    have hv2 := (oDict y r).frame hv fr fun _ _ _ z _ => z
    exact ⟨F2, st, fin (some xs) (some v) ⟨(fun z => nomatch z), fun a ha => ⟨v, rfl, by cases ha; exact hv2⟩⟩⟩
theorem fe_ownD {i : Nat} {x : Str} {gt : ε → Option (List (κ × α))} {p : ε → Option (List (κ × α)) → ε} (L : OD D i y r gt p) (hN : X.N[i]? = some x := by rfl) (hv : Vis X.env.scope x := by first | exact Or.inl rfl | exact Or.inr (Or.inl rfl) | exact Or.inr (Or.inr rfl))
    (hd : (x == ("__debug__" : Str)) = false := by decide) (hcd : (x == ("__classdict__" : Str)) = false := by decide) (hK : X.K = K := by rfl) : FE D X K R mF (.Name x pos) (tVar i) (rDict y r) (dV gt) := by
  cases hK
  refine ⟨rfl, pe_var hN hv hd hcd, fun H O F E σ I Q k => ?_⟩
  unfold dV at k
  cases eg : gt E with
  | none => rw [eg] at k; exact k.elim
  | some xs =>
    rw [eg] at k
    obtain ⟨q, vs, y0, y1, y2, y3, y4, _⟩ := L.dct I eg
    refine ⟨.ref q, y0, k _ H (Same.refl H) ⟨q, vs, rfl, ?_, y2, Paired.imp y4 fun _ _ h => h.mono hidM_top⟩⟩
    unfold hidM
    rw [hid_out (by simpa using I.dj q y3)]
    exact y1
theorem fs_setD {i : Nat} {x : Str} {gt : ε → Option (List (κ × α))} {p : ε → Option (List (κ × α)) → ε} {f : ε → Rs (List (κ × α))} (L : OD D i y r gt p) (hN : X.N.Nodup) (he : FN D X K R e te (oDict y r) f) (hi : X.N[i]? = some x := by rfl) (hx : Loc X.env.scope x := by first | exact .inl rfl | exact .inr rfl) (hs : swapsWith e (some (.Name x pos')) pos.line X.env = pure false := by rfl)
    (hf : X.fn x = true ∨ X.env.scope.names.lookup x = some .local := by first | exact .inl rfl | exact .inr rfl) : FS D X K R rr (.Assign [.Name x pos'] e pos) (tAsg te (gName i)) (dSet (ρ := ρ) p f) := by
  cases he.hK
  exact ⟨rfl, ps_set hN hi hx he.pe hs hf, fun H O F E σ I Dn k =>
    he.sem H O F E σ I _ ((good_bind k).mono (fun x _ k v H1 F1 e1 n1 nd d1 r1 => by
      obtain ⟨F2, s2, I2⟩ := L.new I e1 n1 nd d1 r1
      exact k _ H1 F2 s2 I2) fun c k => exS k)⟩
theorem fn_dict0 (hK : X.K = K := by rfl) : FN D X K R (.Dict [] [] pos) tDNewK (oDict y r) (dC []) := by
  cases hK
  exact ⟨rfl, pe_dnewK, fun H O F E σ I Q k => fun p hp => by
    have s := Fx.same_upd (o := .dK []) hp
    exact k (.ref p) _ [p] s (fun q hq => by rw [List.mem_singleton.mp hq]; exact hp) (by simp) (fun q hq => by rw [List.mem_singleton.mp hq]; exact ⟨_, upd_same⟩) ⟨p, [], rfl, rfl, upd_same, Nat.zero_le _, .nil⟩⟩
noncomputable def dPutD (gt : ε → Option (List (κ × α))) (p : ε → Option (List (κ × α)) → ε) (fi : ε → Rs κ) (f : ε → Rs α) : ε → Rs (Fl ε ρ) := fun E => (f E).bind fun a => (ofO (gt E)).bind fun xs => (fi E).bind fun k => cIf (xs.length < sizeLine) (.ok (.nx (p E (some (putD xs k a))))) .bad
theorem fs_putD {i : Nat} {x : Str} {gt : ε → Option (List (κ × α))} {p : ε → Option (List (κ × α)) → ε} {f : ε → Rs α} {fi : ε → Rs κ} {px tpos : Pos} (hu : X.A.units + 65 < cLine) (L : OD D i y r gt p) (he : FE D X K R mS e te r f) (hx : FE D X K R m ix ti y.v fi) (hi : X.N[i]? = some x := by rfl)
    (hv : Vis X.env.scope x := by first | exact Or.inl rfl | exact Or.inr (Or.inl rfl) | exact Or.inr (Or.inr rfl)) (hd : (x == ("__debug__" : Str)) = false := by decide) (hcd : (x == ("__classdict__" : Str)) = false := by decide)
    (hs : swapsWith e (some (.Subscript (.Name x px) ix tpos)) pos.line X.env = pure false := by rfl) :
    FS D X K R rr (.Assign [.Subscript (.Name x px) ix tpos] e pos) (sDPut (tVar i) ti te) (dPutD (ρ := ρ) gt p fi f) := by
  cases he.hK
  exact ⟨rfl, ps_dput (by omega) (pe_var hi hv hd hcd) hx.pe he.pe hs, fun H O F E σ I Dn k => he.sem H O F E σ I _ ((good_bind k).mono (fun a _ k v H1 e1 r1 => by
    have k := good_bind k
    have I1 := I.same e1
    cases eg : gt E with
    | none => rw [eg] at k; exact k.elim
    | some xs =>
      rw [eg] at k
      have k := good_bind (show Good ((fi E).bind _) _ _ from k)
      obtain ⟨q0, vs0, z0, z1, _⟩ := L.dct I1 eg
      refine ⟨.ref q0, z0, hx.sem H1 O F E σ I1 _ (k.mono (fun kk _ k w H2 e2 r2 => ?_) fun c k H2 e2 => exS k H2 (e1.trans e2))⟩
      obtain ⟨q, vs, y0, y1, y2, y3, y4, y5⟩ := L.dct (I1.same e2) eg
      rw [z0] at y0
      cases y0
      by_cases c : xs.length < sizeLine
      · rw [cIf_pos c] at k
        obtain ⟨s2, I2⟩ := y5 (putD xs kk a) (putK vs (y.key kk) v) (Nat.le_trans (putD_len xs kk a) c) (put_rel (r.mono (hidM_sm e2) r1) y4)
        rw [y.kv r2]
        exact ⟨q0, _, rfl, .k y1 (by rw [← Paired.len y4]; exact c), k _ _ F ((Step.same (e1.trans e2)).trans s2) I2⟩
      · rw [cIf_neg c] at k; exact k.elim) fun c k => exS k)⟩
/-! ### a, b[i] = .. -/
def dSwapI {β : Type} (st : ε → β → Option ε) (gt : ε → Option (List α)) (p : ε → Option (List α) → ε) (fi : ε → Rs Int) (f : ε → Rs (β × α × Unit)) : ε → Rs (Fl ε ρ) := fun E => (f E).bind fun a => (ofO (st E a.1)).bind fun E1 => (ofO (gt E1)).bind fun xs => (fi E1).bind fun k => (ofO (ixN xs.length k)).bind fun j => .ok (.nx (p E1 (some (xs.set j a.2.1))))
theorem fs_swapI {i : Nat} {x : Str} {rb : Rp β} {g : TG} {st : ε → β → Option ε} {is : List Nat} {gt : ε → Option (List α)} {p : ε → Option (List α) → ε} {f : ε → Rs (β × α × Unit)} {fi : ε → Rs Int} {px tpos tp : Pos} {tg : Expr} {bo : Bool} {ek : Nat} (hc : X.calm = true) (L : OLb bo D i r gt p) (he : FE D X K R mS e te (rTup (pC true rb (pC true r pNil))) f)
    (hg : FG D D X K rb mS tg g st is) (hx : FE D X K R m ix ti rInt fi) (hi : X.N[i]? = some x := by rfl)
    (hv : Vis X.env.scope x := by first | exact Or.inl rfl | exact Or.inr (Or.inl rfl) | exact Or.inr (Or.inr rfl)) (hd : (x == ("__debug__" : Str)) = false := by decide) (hcd : (x == ("__classdict__" : Str)) = false := by decide)
    (ha : ∀ v, assign (.Subscript (.Name x px) ix tpos) X.env v = (do
      let ov ← holding [v] (eval (.Name x px) X.env)
      let iv ← holding [v, ov] (eval ix X.env)
      standAt tpos
      holding [v, ov, iv] (setItem ov iv v)
      release [v, ov, iv] []) := by intro _; rfl)
    (h2 : (assignEach [tg, .Subscript (.Name x px) ix tpos] X.env).map (·.2) = assign tg X.env :: (assignEach [.Subscript (.Name x px) ix tpos] X.env).map (·.2) := by rfl)
    (h3 : (assignEach [.Subscript (.Name x px) ix tpos] X.env).map (·.2) = assign (.Subscript (.Name x px) ix tpos) X.env :: (assignEach [] X.env).map (·.2) := by rfl)
    (hn : (assignEach [tg, .Subscript (.Name x px) ix tpos] X.env).length = 2 := by rfl) (hst : (assignEach [tg, .Subscript (.Name x px) ix tpos] X.env).findIdx? (·.1) = none := by rfl)
    (hs : swapsWithSole [.Tuple [tg, .Subscript (.Name x px) ix tpos] ek tp] e pos.line X.env = pure false := by rfl) (hw : swappedStores [.Tuple [tg, .Subscript (.Name x px) ix tpos] ek tp] e X.env = pure none := by rfl)
    (h1 : (assignEach [.Tuple [tg, .Subscript (.Name x px) ix tpos] ek tp] X.env).map (·.2) = [assign (.Tuple [tg, .Subscript (.Name x px) ix tpos] ek tp) X.env] := by rfl) :
    FS D X K R rr (.Assign [.Tuple [tg, .Subscript (.Name x px) ix tpos] ek tp] e pos) (tAsg te (gTup K 2 (gCons g (gCons (gSub (tVar i) ti rSetL) gNil)))) (dSwapI (ρ := ρ) st gt p fi f) := by
  cases he.hK
  exact ⟨rfl, ps_asg he.pe (pg_tup hc (pgs_cons hg.pg (pgs_cons (pg_sub (pe_var hi hv hd hcd) hx.pe set_list ha) pgs_nil h3) h2) hn hst) hs hw h1, fun H O F E σ I Dn k => he.sem H O F E σ I _ ((good_bind k).mono (fun a _ k v H1 e1 r1 => by
    obtain ⟨p0, vs, rfl, hp0, u1, us1, rfl, ru1, u2, us2, rfl, ru2, rfl⟩ := r1
    have k := good_bind k
    cases es : st E a.1 with
    | none => rw [es] at k; exact k.elim
    | some E1 =>
      rw [es] at k
      refine ⟨p0, [u1, u2], rfl, .inl (.inl (hidM_low.get _ _ hp0)), rfl, u1, [u2], rfl, hg.sem H1 O F E E1 σ a.1 u1 (I.same e1) ru1 es _ fun σ' I1 _ _ => ?_⟩
      have k := good_bind (show Good ((ofO (gt E1)).bind _) _ _ from k)
      cases eg : gt E1 with
      | none => rw [eg] at k; exact k.elim
      | some xs =>
        rw [eg] at k
        have k := good_bind (show Good ((fi E1).bind _) _ _ from k)
        obtain ⟨q0, vs0, z0, z1, _⟩ := L.lst I1 eg
        refine ⟨u2, [], rfl, .ref q0, z0, hx.sem H1 O F E1 σ' I1 _ (k.mono (fun kk _ k w H2 e2 r2 => ?_) fun c k H2 e2 => exS k H2 (e1.trans e2))⟩
        obtain ⟨q, vs, y0, y1, y2, y3, y4, y5⟩ := L.lst (I1.same e2) eg
        rw [z0] at y0
        cases y0
        cases ej : ixN xs.length kk with
        | none => rw [ej] at k; exact k.elim
        | some j =>
          rw [ej] at k
          obtain ⟨s2, I2⟩ := y5 (xs.set j a.2.1) (vs.set j u2) (by rw [List.length_set]; exact y2) (Paired.st (r.mono (hidM_sm e2) ru2) j y4)
          exact ⟨q0, vs, kk, j, rfl, r2, y1, by rw [← Paired.len y4]; exact ej, rfl, k _ _ F ((Step.same (e1.trans e2)).trans s2) I2⟩) fun c k => exS k)⟩
end
end Fx

/-! Fx41: lists in order (<=, <), rows of unlike things taken apart, a walk over an owned list whose items are not read, in a dict as a test. -/
namespace Fx
open PySem PySem.Spec L2
variable [Tbs]
section
variable {ε ε' κ α β ρ π : Type} {D : EnvD ε} {X : Cx} {K : PySem.W.Frag} {R : Str → Hp → Prop} {rr : RetD ρ} {m ma mb : Md} {e o ix a b : Expr} {te ta tb ti : TE} {r : Rp α} {y : Ky κ} {pos pos' : Pos} {P : PD π}
/-! ### in order -/
def qOrd (K : PySem.W.Frag) (g : PyData → PyData → Bool) : R2 := fun x y H Q => ∃ dx dy : PyData, Dp K H x dx ∧ Dp K H y dy ∧ PySem.W.alike dx dy = true ∧ dx ≠ .none ∧ dx.depth ≤ 8 ∧ Q (.bl (g dx dy)) H
theorem op_leD (hu : X.A.units + 65 < cLine) : OpR X (compareOp .LtE) (qOrd X.K fun dx dy => !PySem.W.dataLt dy dx) := by
  intro pins s σ H x y v u Q I rx ry h
  obtain ⟨dx, dy, d1, d2, hal, hn, hd, q⟩ := h
  obtain ⟨as, ra⟩ := Dp.reads I _ _ _ d1 rx
  obtain ⟨bs, rb⟩ := Dp.reads I _ _ _ d2 ry
  exact PySem.W.le_data ra rb hal hn (by omega) ⟨.bl _, H, I, rfl, q⟩
theorem op_ltD (hu : X.A.units + 65 < cLine) : OpR X (compareOp .Lt) (qOrd X.K fun dx dy => PySem.W.dataLt dx dy) := by
  intro pins s σ H x y v u Q I rx ry h
  obtain ⟨dx, dy, d1, d2, hal, hn, hd, q⟩ := h
  obtain ⟨as, ra⟩ := Dp.reads I _ _ _ d1 rx
  obtain ⟨bs, rb⟩ := Dp.reads I _ _ _ d2 ry
  exact PySem.W.lt_data ra rb hal hn (by omega) ⟨.bl _, H, I, rfl, q⟩
def leB (q : Sb r) : α → α → Option Bool := fun x y => some (!q.lt y x)
def ltB (q : Sb r) : α → α → Option Bool := fun x y => some (q.lt x y)
theorem b_leD {K : PySem.W.Frag} (q : Sb r) (hn8 : q.n ≤ 8 := by first | decide | exact Nat.le_of_ble_eq_true rfl) (hnn : ∀ a, q.toD a ≠ .none := by intro _ z; cases z) : Bin K ma mb m (qOrd K fun dx dy => !PySem.W.dataLt dy dx) r r rBool (leB q) := fun H O F x y z v w d h1 h2 e Q k => by
  cases e
  exact ⟨q.toD x, q.toD y, q.dp (r.mono hidM_low h1), q.dp (r.mono hidM_low h2), q.alk x y, hnn x, Nat.le_trans (q.dep x) hn8, k _ H (Same.refl H) (by show V.bl _ = V.bl _; simp only [q.ltD])⟩
theorem b_ltD {K : PySem.W.Frag} (q : Sb r) (hn8 : q.n ≤ 8 := by first | decide | exact Nat.le_of_ble_eq_true rfl) (hnn : ∀ a, q.toD a ≠ .none := by intro _ z; cases z) : Bin K ma mb m (qOrd K fun dx dy => PySem.W.dataLt dx dy) r r rBool (ltB q) := fun H O F x y z v w d h1 h2 e Q k => by
  cases e
  exact ⟨q.toD x, q.toD y, q.dp (r.mono hidM_low h1), q.dp (r.mono hidM_low h2), q.alk x y, hnn x, Nat.le_trans (q.dep x) hn8, k _ H (Same.refl H) (by show V.bl _ = V.bl _; simp only [q.ltD])⟩
/-! ### a row of unlike things -/
theorem fg_row {D' : EnvD ε'} {es : List Expr} {gs : TGs} {st : ε → π → Option ε'} {is : List Nat} {k n : Nat} (hc : X.calm = true) (h : FGs D D' X K P m es gs st is) (hP : ∀ K H H' a vs, P.rel K H H' a vs → vs.length = n)
    (hn : (assignEach es X.env).length = n := by rfl) (hst : (assignEach es X.env).findIdx? (·.1) = none := by rfl) : FG D D' X K (rRow P) m (.Tuple es k pos) (gUnl K n gs) st is := by
  cases h.hK
  exact ⟨rfl, pg_unl hc h.pg hn hst, fun H O F E E' σ a v I ra e Q q => by
    obtain ⟨p, vs, h1, h2, h3⟩ := ra
    exact ⟨p, vs, h1, .inl (.inl (hidM_low.get _ _ h2)), hP _ _ _ _ _ h3, h.sem H O F E E' σ a vs I h3 e Q q⟩⟩
/-! ### items that are not read -/
def rAny : Rp Unit := ⟨fun _ _ _ _ => True, fun _ h => h⟩
theorem sc_any : rAny.Sc := fun _ _ _ _ _ h => h
theorem fi_any {i : Nat} {x : Str} {tg : Expr} {gt : ε → Option (List (List α))} {p : ε → Option (List (List α)) → ε} {px : Pos} (L : Ln D D i (sO (oList2 r)) (sO (oList2 r)) gt p) (hN : X.N[i]? = some x := by rfl)
    (hv : Vis X.env.scope x := by first | exact Or.inl rfl | exact Or.inr (Or.inl rfl) | exact Or.inr (Or.inr rfl)) (hd : (x == ("__debug__" : Str)) = false := by decide) (hcd : (x == ("__classdict__" : Str)) = false := by decide) (hK : X.K = K := by rfl) :
    FI true D X K R mS tg (.Name x px) (iList K (tVar i)) rAny (d1 (fun xs => some (xs.map fun _ => ())) (dV gt)) := by
  cases hK
  exact ⟨rfl, pi_list (pe_var hN hv hd hcd), fun H O F E σ I Q k => by
    have k := good_bind k
    unfold dV at k
    cases eg : gt E with
    | none => rw [eg] at k; exact k.elim
    | some xss =>
      rw [eg] at k
      obtain ⟨q, qs, y0, y1, y2, y3, y4, y5, y6, _⟩ := l2_at L I eg
      have k : (xss.map fun _ => ()).length ≤ sizeLine → _ := k
      refine ⟨.ref q, y0, q, rfl, ⟨_, .inl (.inl y1)⟩, k (by rw [List.length_map]; exact y2) _ H (Same.refl H) fun H2 e2 e3 => ?_⟩
      have hq : SqL X.K H2 q (qs.map V.ref) := .inl (.inl (e3.get q _ y1))
      have hl : (xss.map fun _ => ()).length = (qs.map V.ref).length := by rw [List.length_map, List.length_map, Paired.len y6]
      refine ⟨fun j a ha => ?_, fun j hj => ⟨_, hq, by rw [← hl]; exact hj⟩⟩
      have hj : j < (qs.map V.ref).length := by
        rw [← hl]
        exact (List.getElem?_eq_some_iff.mp ha).1
      exact ⟨⟨_, (qs.map V.ref)[j], hq, List.getElem?_eq_getElem hj⟩, fun z H' y => ⟨y.1, trivial⟩⟩⟩
/-! ### in a dict, as a test -/
variable [DecidableEq κ]
theorem ft_din {f : ε → Rs (List (κ × α))} {g : ε → Rs κ} (hu : X.A.units + 65 < cLine) (hb : FE D X K R mb b tb y.v g) (ha : FE D X K R m a ta (rDict y r) f) (hm : behindInMarks .In a = false := by first | exact nomark _ | rfl) : FT D X K R (.Compare b [.In] [a] pos) (tB (tDIn tb ta)) (d2 inD g f) := by
  cases ha.hK
  exact ⟨rfl, pt_cmp (pc_din (by omega) hb.pe ha.pe) hm, fun H O F E σ I Q k => show tOp qDIn tb ta σ H (fun x H1 => ∃ c, x = .bl c ∧ Q c H1) from SemE.bin (m := mS) b_din hb.sem ha.sem H O F E σ I (fun x H1 => ∃ c, x = .bl c ∧ Q c H1) (k.mono (fun v _ k u H' e1 e2 => ⟨v, e2, k H' e1⟩) fun c k => k)⟩
theorem ft_dnotin {f : ε → Rs (List (κ × α))} {g : ε → Rs κ} (hu : X.A.units + 65 < cLine) (hb : FE D X K R mb b tb y.v g) (ha : FE D X K R m a ta (rDict y r) f) (hm : behindInMarks .NotIn a = false := by first | exact nomark _ | rfl) : FT D X K R (.Compare b [.NotIn] [a] pos) (tB (tDNotIn tb ta)) (d2 notInD g f) := by
  cases ha.hK
  exact ⟨rfl, pt_cmp (pc_dnotin (by omega) hb.pe ha.pe) hm, fun H O F E σ I Q k => show tOp qDNotIn tb ta σ H (fun x H1 => ∃ c, x = .bl c ∧ Q c H1) from SemE.bin (m := mS) b_dnotin hb.sem ha.sem H O F E σ I (fun x H1 => ∃ c, x = .bl c ∧ Q c H1) (k.mono (fun v _ k u H' e1 e2 => ⟨v, e2, k H' e1⟩) fun c k => k)⟩
end
end Fx

/-! Fx42: a def that changes its last argument, an owned list of lists; its call within `if .. or not f(..)`. -/
namespace Fx
open PySem PySem.Spec L2
variable [Tbs]
section
variable {ε ε' ρ α β γ π μ : Type} {D : EnvD ε} {X : Cx} {K : PySem.W.Frag} {R : Str → Hp → Prop} {rr : RetD ρ} {m m' ma mb : Md} {e c a b : Expr} {es : List Expr} {te ti tj : TE} {tr : TA} {r : Rp α} {pos pos' : Pos} {P : PD π} {o : Ro μ} {ix jx : Expr}
/-- an owned thing that stays at its place -/
def sU (v0 : V) (o : Ro μ) : Slot μ where
  rel := fun K H O Ft x w F => (x = none → F = []) ∧ ∀ a, x = some a → w = some v0 ∧ o.rp K H (hid (O ++ Ft) H) a v0 F
  frame := fun ⟨h1, h2⟩ e1 e2 k => ⟨h1, fun a ha => ⟨(h2 a ha).1, o.frame (h2 a ha).2 e1 k⟩⟩
  non := ⟨fun _ => rfl, fun _ h => by cases h⟩
theorem fe_ownU {v0 : V} {i : Nat} {g : ε → Option μ} {p : ε → Option μ → ε} {x : Str} (L : Ln D D i (sU v0 o) (sU v0 o) g p) (hN : X.N[i]? = some x := by rfl) (hv : Vis X.env.scope x := by first | exact Or.inl rfl | exact Or.inr (Or.inl rfl) | exact Or.inr (Or.inr rfl))
    (hd : (x == ("__debug__" : Str)) = false := by decide) (hcd : (x == ("__classdict__" : Str)) = false := by decide) (hK : X.K = K := by rfl) : FE D X K R mF (.Name x pos) (tVar i) o.sh (dV g) := by
  cases hK
  refine ⟨rfl, pe_var hN hv hd hcd, fun H O F E σ I Q q => ?_⟩
  obtain ⟨F1, w, sub, nd1, hw, hs, _⟩ := RelF.slot L I
  unfold dV at q
  cases eg : g E with
  | none => rw [eg] at q; exact q.elim
  | some a =>
    rw [eg] at q hs
    obtain ⟨e1, e2⟩ := hs.2 a rfl
    subst e1
    refine ⟨v0, hw, q v0 H (Same.refl H) ?_⟩
    have e3 := o.frame (H' := hidM mF O F H) (Hs' := hid (O ++ F) H) e2 (Wk.refl _) fun p hp u hu _ => by
      have : p ∉ O := I.dj p (sub p hp)
      unfold hidM
      rw [hid_out (by simpa using this)]
      exact hu
    exact o.toSh e3 hidM_top
structure L2U (D : EnvD ε) (i : Nat) (r : Rp α) (gt : ε → Option (List (List α))) (p : ε → Option (List (List α)) → ε) : Prop where
  at_ : ∀ {K : PySem.W.Frag} {H : Hp} {O F : List Addr} {E : ε} {σ : L2.St} (I : RelF D K H O F E σ) {xss : List (List α)} (hx : gt E = some xss), ∃ a qs, σ[i]? = some (some (.ref a)) ∧ H a = some (.lst (qs.map V.ref)) ∧ xss.length ≤ sizeLine ∧ a ∈ F ∧ (∀ q ∈ qs, q ∈ F) ∧ (a :: qs).Nodup ∧ Paired (rowAt r K H (hid (O ++ F) H)) xss qs ∧
      -- a row's items change
      (∀ (k : Nat) (q : Addr) (ys : List α) (ws : List V), qs[k]? = some q → ys.length ≤ sizeLine → Paired (r.rp K (hid (O ++ F) H)) ys ws → Step F H F (upd H q (.lst ws)) ∧ RelF D K (upd H q (.lst ws)) O F (p E (some (xss.set k ys))) σ)
theorem l2u_of {v0 : V} {i : Nat} {gt : ε → Option (List (List α))} {p : ε → Option (List (List α)) → ε} (L : Ln D D i (sU v0 (oList2 r)) (sU v0 (oList2 r)) gt p) : L2U D i r gt p := by
  refine ⟨fun {K H O F E σ} I {xss} hx => ?_⟩
  obtain ⟨F1, w, sub, nd1, hw, hs, cl⟩ := RelF.slot L I
  rw [hx] at hs
  obtain ⟨rfl, a, qs, e2, e3, e4, e5, e6⟩ := hs.2 xss rfl
  subst e2 e3
  have ha : a ∈ F := sub a (by simp)
  have hqs : ∀ q ∈ qs, q ∈ F := fun q hq => sub q (by simp [hq])
  refine ⟨a, qs, hw, e4, e5, ha, hqs, nd1, e6, fun k q ys ws hq hl hp => ?_⟩
  · have hqm : q ∈ qs := List.mem_of_getElem? hq
    have hqF := hqs q hqm
    obtain ⟨xs0, ws0, hq0⟩ : ∃ (xs0 : List α) (ws0 : List V), H q = some (.lst ws0) := by
      obtain ⟨y, _, vs, z, _⟩ := Paired.getR e6 hq
      exact ⟨[], vs, z⟩
    have hqa : a ≠ q := fun z => (List.nodup_cons.mp nd1).1 (z ▸ hqm)
    obtain ⟨F2, eqF, m2, m1, st, fin⟩ := cl (upd H q (.lst ws)) (a :: qs) ((stab_upd hq0).sub fun b hb => by rw [List.mem_singleton.mp hb]; simp [hqm]) (fun b hb => .inl hb) nd1 (fun b hb => by
      by_cases z : b = q
      · rw [z]; exact ⟨_, upd_same⟩
      · obtain ⟨u, y⟩ := I.dom b (List.mem_append_right _ (sub b hb))
        exact ⟨u, by rw [upd_ne z]; exact y⟩)
    have e := eqF rfl
    subst e
    have hsm := hid_upd_in (O := O) (H := H) (u := HO.lst ws) hqF
    have r2 := fin (some (xss.set k ys)) (some (.ref a)) ⟨(fun z => nomatch z), fun y hy => by
      cases hy
      refine ⟨rfl, a, qs, rfl, rfl, by rw [upd_ne hqa]; exact e4, by rw [List.length_set]; exact e5, ?_⟩
      have key : ∀ {xss : List (List α)} {qs : List Addr} (k : Nat), qs.Nodup → qs[k]? = some q → Paired (rowAt r K H (hid (O ++ F2) H)) xss qs → Paired (rowAt r K (upd H q (.lst ws)) (hid (O ++ F2) (upd H q (.lst ws)))) (xss.set k ys) qs := by
        intro xss qs k nd hk hpr
        induction hpr generalizing k with
        | nil => cases hk
        | @cons xs q0 xss qs hr hrs ih =>
          cases k with
          | zero =>
            have e : q0 = q := by simpa using hk
            subst e
            refine .cons ⟨ws, upd_same, hl, Paired.imp hp fun _ _ => r.mono hsm⟩ ?_
            exact Paired.mapL hrs fun xs b hb z => z.imp hsm fun u hu _ => by
              rw [upd_ne (show b ≠ q0 from fun y => (List.nodup_cons.mp nd).1 (y ▸ hb))]; exact hu
          | succ k =>
            have hk' : qs[k]? = some q := by simpa using hk
            refine .cons (hr.imp hsm fun u hu _ => ?_) (ih k (List.nodup_cons.mp nd).2 hk')
            rw [upd_ne (show q0 ≠ q from fun y => (List.nodup_cons.mp nd).1 (y ▸ List.mem_of_getElem? hk'))]
            exact hu
      exact key k (List.nodup_cons.mp nd1).2 hq e6⟩
    rw [set_self hw] at r2
    exact ⟨st, r2⟩
theorem fs_set2U {i : Nat} {x : Str} {px p1 tpos : Pos} {gt : ε → Option (List (List α))} {p : ε → Option (List (List α)) → ε} {fi fj : ε → Rs Int} {f : ε → Rs α} (L : L2U D i r gt p) (he : FE D X K R mS e te r f) (hx1 : FE D X K R ma ix ti rInt fi) (hx2 : FE D X K R mb jx tj rInt fj) (hi : X.N[i]? = some x := by rfl)
    (hv : Vis X.env.scope x := by first | exact Or.inl rfl | exact Or.inr (Or.inl rfl) | exact Or.inr (Or.inr rfl)) (hd : (x == ("__debug__" : Str)) = false := by decide) (hcd : (x == ("__classdict__" : Str)) = false := by decide) (hpl : PlainIx ix := by intro _ _; rfl)
    (ha : ∀ v, assign (.Subscript (.Subscript (.Name x px) ix p1) jx tpos) X.env v = (do
      let ov ← holding [v] (eval (.Subscript (.Name x px) ix p1) X.env)
      let iv ← holding [v, ov] (eval jx X.env)
      standAt tpos
      holding [v, ov, iv] (setItem ov iv v)
      release [v, ov, iv] []) := by intro _; rfl)
    (hs : swapsWithSole [.Subscript (.Subscript (.Name x px) ix p1) jx tpos] e pos.line X.env = pure false := by rfl) (hw : swappedStores [.Subscript (.Subscript (.Name x px) ix p1) jx tpos] e X.env = pure none := by rfl)
    (h1 : (assignEach [.Subscript (.Subscript (.Name x px) ix p1) jx tpos] X.env).map (·.2) = [assign (.Subscript (.Subscript (.Name x px) ix p1) jx tpos) X.env] := by rfl) :
    FS D X K R rr (.Assign [.Subscript (.Subscript (.Name x px) ix p1) jx tpos] e pos) (tAsg te (gSub (tOp (rIxL K) (tVar i) ti) tj rSetL)) (dSet2 (ρ := ρ) gt p fi fj f) := by
  cases he.hK
  refine ⟨rfl, ps_asg he.pe (pg_sub (pe_ix ix_list (pe_var hi hv hd hcd) hx1.pe hpl) hx2.pe set_list ha) hs hw h1, fun H O F E σ I Dn k => he.sem H O F E σ I _ ((good_bind k).mono (fun a _ k v H1 e1 r1 => ?_) fun c k => exS k)⟩
  have k := good_bind k
  have I1 := I.same e1
  cases eg : gt E with
  | none => rw [eg] at k; exact k.elim
  | some xss =>
    rw [eg] at k
    have k := good_bind (show Good ((fi E).bind _) _ _ from k)
    obtain ⟨a0, qs0, z0, _⟩ := L.at_ I1 eg
    refine ⟨.ref a0, z0, hx1.sem H1 O F E σ I1 _ (k.mono (fun i1 _ k w H2 e2 r2 => ?_) fun c k H2 e2 => exS k H2 (e1.trans e2))⟩
    have I2 := I1.same e2
    obtain ⟨a1, qs, y0, y1, y2, y3, y4, y5, y6, _⟩ := L.at_ I2 eg
    rw [z0] at y0
    cases y0
    have k := good_bind k
    cases ei : ixN xss.length i1 with
    | none => rw [ei] at k; exact k.elim
    | some kk =>
      rw [ei] at k
      obtain ⟨q, xs, g1, g2, g3, g4⟩ := atI_ref y6 ei
      have k := good_bind (show Good ((ofO xss[kk]?).bind _) _ _ from k)
      rw [g2] at k
      have k := good_bind (show Good ((fj E).bind _) _ _ from k)
      refine ⟨a0, qs.map V.ref, i1, .ref q, rfl, r2, .inl (.inl y1), g3, hx2.sem H2 O F E σ I2 _ (k.mono (fun j1 _ k u H3 e3 r3 => ?_) fun c k H3 e3 => exS k H3 ((e1.trans e2).trans e3))⟩
      have I3 := I2.same e3
      obtain ⟨a2, qs2, x0, x1, x2, x3, x4, x5, x6, x7⟩ := L.at_ I3 eg
      rw [z0] at x0
      cases x0
      have eq : qs2 = qs := by
        have := (e3.get _ _ y1).symm.trans x1
        have h := HO.lst.inj (Option.some.inj this)
        have : Function.Injective V.ref := fun _ _ h => V.ref.inj h
        exact ((List.map_inj_right (fun _ _ h => V.ref.inj h)).mp h).symm
      subst eq
      cases ej : ixN xs.length j1 with
      | none => rw [ej] at k; exact k.elim
      | some l =>
        rw [ej] at k
        obtain ⟨vs, w1, w2, w3⟩ := (g4.imp (hid_sm e3) fun o h nt => e3.wk.get _ _ h nt)
        obtain ⟨s4, I4⟩ := x7 kk q (xs.set l a) (vs.set l v) g1 (by rw [List.length_set]; exact w2) (Paired.st (r.mono (hidM_sm (e2.trans e3)) r1) l w3)
        exact ⟨q, vs, j1, l, rfl, r3, w1, by rw [← Paired.len w3]; exact ej, k _ _ F ((Step.same ((e1.trans e2).trans e3)).trans s4) I4⟩

/-! ### its answer -/
def retU (v0 : V) (ra : Rp α) (o : Ro μ) : RetD (α × μ) := ⟨fun K H O a v F => ra.rp K (hid (O ++ F) H) a.1 v ∧ o.rp K H (hid (O ++ F) H) a.2 v0 F⟩
def dRetU (gt : ε → Option μ) (f : ε → Rs α) : ε → Rs (Fl ε (α × μ)) := fun E => (f E).bind fun a => (ofO (gt E)).bind fun d => .ok (.rt (a, d))
theorem fs_retU {v0 : V} {i : Nat} {gt : ε → Option μ} {p : ε → Option μ → ε} {f : ε → Rs α} (L : Ln D D i (sU v0 o) (sU v0 o) gt p) (h : FE D X K R mS e te r f) : FS D X K R (retU v0 r o) (.Return (some e) pos) (tRet te) (dRetU gt f) := by
  cases h.hK
  exact ⟨rfl, ps_ret h.pe, fun H O F E σ I Dn k => h.sem H O F E σ I _ ((good_bind k).mono (fun a _ k v H1 e1 r1 => by
    have I1 := I.same e1
    cases eg : gt E with
    | none => rw [eg] at k; exact k.elim
    | some d =>
      rw [eg] at k
      obtain ⟨F1, w, sub, nd1, hw, hs, _⟩ := RelF.slot L I1
      rw [eg] at hs
      obtain ⟨_, ho⟩ := hs.2 d rfl
      have sub2 : ∀ q ∈ O ++ F1, q ∈ O ++ F := fun q hq => by
        rcases List.mem_append.mp hq with z | z
        · exact List.mem_append_left _ z
        · exact List.mem_append_right _ (sub q z)
      exact k v H1 F1 (Stab.of_same e1) (fun p hp => .inl (sub p hp)) nd1 (fun p hp => I1.dom p (List.mem_append_right _ (sub p hp))) ⟨r.mono (hid_sub sub2) r1, o.frame ho (hid_sub sub2) fun _ _ _ z _ => z⟩) fun c k => exS k)⟩
/-! ### the def -/
def spU (K : PySem.W.Frag) (P : PD π) (o : Ro μ) (ra : Rp α) (mf : π × μ → Rs (α × μ)) : Sp := fun vs H Q E => ∃ (O Fd : List Addr) (args : π) (d : μ) (us : List V) (v : V), vs = us ++ [v] ∧ P.rel K (hid (O ++ Fd) H) (hid (O ++ Fd) H) args us ∧ o.rp K H (hid (O ++ Fd) H) d v Fd ∧
  Fd.Nodup ∧ (∀ p ∈ Fd, p ∉ O) ∧ (∀ p ∈ O ++ Fd, ∃ u, H p = some u) ∧ LamX.Tabs Tbs.T H ∧
  Good (mf (args, d)) (fun rd => ∀ x H' F', Stab Fd H H' → (∀ p ∈ F', p ∈ Fd ∨ H p = none) → F'.Nodup → (∀ p ∈ F', ∃ u, H' p = some u) → ra.rp K (hid (O ++ F') H') rd.1 x → o.rp K H' (hid (O ++ F') H') rd.2 v F' → Q x H') (fun _ => False)
structure NoneD (D : EnvD ε) (n : Nat) (e0 : ε) : Prop where
  run : ∀ {K : PySem.W.Frag} {H : Hp} {O Ft : List Addr}, D.rel K H O Ft e0 (List.replicate n none) []
theorem nd_nil : NoneD eNil 0 () := ⟨⟨rfl, rfl⟩⟩
theorem nd_cons {s : Slot α} {n : Nat} {e0 : ε} (h : NoneD D n e0) : NoneD (eC s D) (n + 1) (none, e0) := ⟨⟨none, _, [], [], rfl, rfl, s.non, h.run⟩⟩
structure StartU (P : PD π) (o : Ro μ) (D : V → EnvD ε) (n : Nat) (e0 : π → μ → ε) : Prop where
  run : ∀ {K : PySem.W.Frag} {H : Hp} {O Fd : List Addr} {a : π} {d : μ} {us : List V} {v : V}, P.rel K (hid (O ++ Fd) H) (hid (O ++ Fd) H) a us → o.rp K H (hid (O ++ Fd) H) d v Fd → (D v).rel K H O Fd (e0 a d) ((us ++ [v]).map some ++ List.replicate n none) Fd
theorem stu_last {n : Nat} {e0 : ε} (h : NoneD D n e0) : StartU pNil o (fun v => eC (sU v o) D) n (fun _ d => (some d, e0)) := ⟨fun {K H O Fd a d us v} h1 ho => by
  have h1 : us = [] := h1
  subst h1
  exact ⟨some v, _, Fd, [], rfl, by rw [List.append_nil], ⟨(fun z => nomatch z), fun x hx => ⟨rfl, by cases hx; exact ho⟩⟩, h.run⟩⟩
theorem stu_consS {Dv : V → EnvD ε} {n : Nat} {e0 : π → μ → ε} (h : StartU P o Dv n e0) : StartU (pC true r P) o (fun v => eC (sS true r) (Dv v)) n (fun a d => (some a.1, e0 a.2 d)) := ⟨fun {K H O Fd a d us v} ⟨u, us', h1, h2, h3⟩ ho => by
  subst h1
  exact ⟨some u, _, [], Fd, rfl, rfl, ⟨rfl, fun x hx => ⟨u, rfl, by cases hx; exact h2⟩⟩, h.run h3 ho⟩⟩
variable {Pg : Program} {w : World} {mg : Str → Option Value} {base : Heap}
theorem fn_okU {x qual : Str} {st : Stmt} {f : Addr} {fd : FuncData} {N ps : List Str} {k n : Nat} {Dv : V → EnvD ε} {e0 : π → μ → ε} {bf : ε → Rs (Fl ε (α × μ))} (F : Fun K x qual st f fd) (S : FnScope N ps (defScope st)) (hst : StartU P o Dv n e0)
    (hlen : ∀ K H H' a vs, P.rel K H H' a vs → vs.length + 1 = ps.length) (hn : N.length = ps.length + n)
    (hb : ∀ (v0 : V) (cdv : Value) (A : Around) (outer : List Env) (s : Shared) (H : Hp) (E : XK), Room k (A.deeper (PyProof.Rows.envOfC qual (defScope st) s.heap.objs.size f cdv)) →
      ∃ t, FSs (Dv v0) (cxOf CX0 Pg w K mg base N qual (defScope st) f cdv A outer s H E).nox K R0 (retU v0 r o) (defBody st) t bf) :
    FnOk Pg w K mg base CX0 (k + 1) f fd ps (spU K P o r fun a => runB bf (e0 a.1 a.2)) := by
  refine F.ok S (fun vs H Q E h => ?_) (fun cdv A outer s H vs Q E hr h => ?_)
  · obtain ⟨O, Fd, args, d, us, v, rfl, h1, _⟩ := h
    rw [List.length_append]
    exact hlen _ _ _ _ _ h1
  · obtain ⟨O, Fd, args, d, us, v, rfl, h1, ho, nd, dj, dom, hT, h3⟩ := h
    obtain ⟨t, ht⟩ := hb v cdv A outer s H E hr
    refine ⟨t, ht.ps, ht.sem H O Fd (e0 args d) _ ?_ _ ((good_bind h3).mono (fun fl _ q => ?_) fun c q => ?_)⟩
    · have hl := hlen _ _ _ _ _ h1
      have e : L2.start N (us ++ [v]) = (us ++ [v]).map some ++ List.replicate n none := by
        unfold L2.start
        rw [hn, List.length_append, show us.length + [v].length = ps.length from hl, Nat.add_sub_cancel_left]
      rw [e]
      exact ⟨hst.run h1 ho, nd, dj, dom, hT⟩
    · cases fl with
      | nx E => exact q.elim
      | bk E => exact q.elim
      | ct E => exact q.elim
      | rt a =>
        have q : ∀ x H' F', Stab Fd H H' → (∀ p ∈ F', p ∈ Fd ∨ H p = none) → F'.Nodup → (∀ p ∈ F', ∃ u, H' p = some u) → r.rp K (hid (O ++ F') H') a.1 x → o.rp K H' (hid (O ++ F') H') a.2 v F' → Q x H' := q
        exact fun v' H' F' k n nd d rl => q v' H' F' k n nd d rl.1 rl.2
    · exact q.elim
/-! ### its call -/
structure FAU {ε π : Type} (D : EnvD ε) (X : Cx) (K : PySem.W.Frag) (R : Str → Hp → Prop) (es : List Expr) (t : TA) (P : PD π) (i : Nat) (f : ε → Rs π) : Prop where
  hK : X.K = K
  pa : PA X es t
  sem : ∀ (H : Hp) (O F : List Addr) (E : ε) (σ : L2.St), RelF D K H O F E σ → ∀ Q : List V → Hp → Prop,
    Good (f E) (fun a => ∀ us H' v, Same H H' → P.rel K (hid (O ++ F) H') (hid (O ++ F) H') a us → σ[i]? = some (some v) → Q (us ++ [v]) H') (fun c => ∀ H', Same H H' → R c H') → t σ H Q
theorem fau_last {i : Nat} {gt : ε → Option μ} {p : ε → Option μ → ε} {x : Str} (L : Ln D D i (sO o) (sO o) gt p) (hN : X.N[i]? = some x := by rfl) (hv : Vis X.env.scope x := by first | exact Or.inl rfl | exact Or.inr (Or.inl rfl) | exact Or.inr (Or.inr rfl))
    (hd : (x == ("__debug__" : Str)) = false := by decide) (hcd : (x == ("__classdict__" : Str)) = false := by decide) (hs : starEach [.Name x pos] X.env = (false, eval (.Name x pos) X.env) :: starEach [] X.env := by rfl) (hK : X.K = K := by rfl) : FAU D X K R [.Name x pos] (tCons (tVar i) tNil) pNil i (fun E => (ofO (gt E)).bind fun _ => .ok ()) := by
  cases hK
  refine ⟨rfl, pa_cons (pe_var hN hv hd hcd) pa_nil hs, fun H O F E σ I Q k => ?_⟩
  cases eg : gt E with
  | none => rw [eg] at k; exact k.elim
  | some d =>
    rw [eg] at k
    obtain ⟨F1, w, sub, nd1, hw, hs, _⟩ := RelF.slot L I
    rw [eg] at hs
    obtain ⟨v, rfl, _⟩ := hs.2 d rfl
    exact ⟨v, hw, k [] H v (Same.refl H) rfl hw⟩
theorem fau_consS {i : Nat} {g : ε → Rs π} {f : ε → Rs α} (h : FE D X K R mS e te r f) (hr : FAU D X K R es tr P i g) (hs : starEach (e :: es) X.env = (false, eval e X.env) :: starEach es X.env := by rfl) : FAU D X K R (e :: es) (tCons te tr) (pC true r P) i (dPair f g) := by
  cases h.hK
  exact ⟨rfl, pa_cons h.pe hr.pa hs, fun H O F E σ I Q k => h.sem H O F E σ I _ ((good_bind k).mono (fun x _ k v H1 e1 r1 => hr.sem H1 O F E σ (I.same e1) _ ((good_bind k).mono (fun xs _ k vs H2 w e2 r2 hw =>
    k (v :: vs) H2 w (e1.trans e2) ⟨v, vs, rfl, r.mono (hid_sm e2) r1, r2⟩ hw) fun c k H2 e2 => k H2 (e1.trans e2))) fun _ k => k)⟩
/-- a test that changes names' values -/
def SemTU (D : EnvD ε) (K : PySem.W.Frag) (R : Str → Hp → Prop) (t : TT) (f : ε → Rs (Bool × ε)) : Prop :=
  ∀ (H : Hp) (O F : List Addr) (E : ε) (σ : L2.St), RelF D K H O F E σ → ∀ Q : Bool → Hp → Prop, Good (f E) (fun bE => ∀ H' F', Step F H F' H' → RelF D K H' O F' bE.2 σ → Q bE.1 H') (fun c => ∀ H', Stab F H H' → R c H') → t σ H Q
structure FTU {ε : Type} (D : EnvD ε) (X : Cx) (K : PySem.W.Frag) (R : Str → Hp → Prop) (e : Expr) (t : TT) (f : ε → Rs (Bool × ε)) : Prop where
  hK : X.K = K
  pt : PT X e t
  sem : SemTU D K R t f
def dCallU (mf : π × μ → Rs (Bool × μ)) (g : ε → Rs π) (gt : ε → Option μ) (p : ε → Option μ → ε) : ε → Rs (Bool × ε) := fun E => (g E).bind fun args => (ofO (gt E)).bind fun d => (nox (mf (args, d))).bind fun rd => .ok (rd.1, p E (some rd.2))
theorem ftu_call {CX : CXT} {k : Nat} {fa : Addr} {fd : FuncData} {ps : List Str} {EX : XK} {x : Str} {p0 : Pos} {mf : π × μ → Rs (Bool × μ)} {g : ε → Rs π} {i : Nat} {gt : ε → Option μ} {p : ε → Option μ → ε}
    (F0 : FnOk X.prog X.w K X.mg X.base CX k fa fd ps (spU K P o rBool mf)) (hr : Room k X.A) (hg : Gl X x) (hm : X.mg x = some (.ref fa)) (hk : PySem.W.keepIn K (.ref fa) = true) (hb : Binds K fd ps []) (hx : Passes CX X EX)
    (L : Ln D D i (sO o) (sO o) gt p) (ha : FAU D X K R (e :: es) tr P i g) (hdb : (x == ("__debug__" : Str)) = false := by decide) (he : starEach (e :: es) X.env = (false, eval e X.env) :: starEach es X.env := by rfl) (hpl : (backTo pos (starEach es X.env)).any (·.1) = false := by rfl)
    (hw : ∀ whole, isTrue (.Call (.Name x p0) (e :: es) [] pos) X.env whole = (do let v ← whole; standAt (Expr.Call (.Name x p0) (e :: es) [] pos).pos; holding [v] (truthy v)) := by intro _; rfl) :
    FTU D X K R (.Call (.Name x p0) (e :: es) [] pos) (tB (tCall (spU K P o rBool mf) [] EX tr)) (dCallU mf g gt p) := by
  cases ha.hK
  refine ⟨rfl, pt_val (pe_call F0 hr hg hm hk hb .nil hx ha.pa hdb he hpl) hw, fun H O F E σ I Q kk => ?_⟩
  refine ha.sem H O F E σ I _ ((good_bind kk).mono (fun args _ kk us H1 v e1 r1 hv => ?_) fun c kk => exS kk)
  have I1 := I.same e1
  cases eg : gt E with
  | none => rw [eg] at kk; exact kk.elim
  | some d =>
    rw [eg] at kk
    have kk := good_bind (show Good ((nox (mf (args, d))).bind _) _ _ from kk)
    obtain ⟨Fd, w, sub, nd1, hw, hs, cl⟩ := RelF.slot L I1
    rw [eg] at hs
    obtain ⟨v', rfl, ho⟩ := hs.2 d rfl
    rw [hv] at hw
    have hw := Option.some.inj (Option.some.inj hw)
    subst hw
    have s1 : ∀ q ∈ (O ++ F.filter fun q => decide (q ∉ Fd)) ++ Fd, q ∈ O ++ F := fun q hq => by
      rcases List.mem_append.mp hq with z | z
      · rcases List.mem_append.mp z with z | z
        · exact List.mem_append_left _ z
        · exact List.mem_append_right _ (List.mem_filter.mp z).1
      · exact List.mem_append_right _ (sub q z)
    refine ⟨O ++ F.filter (fun q => decide (q ∉ Fd)), Fd, args, d, us, v, by rw [List.append_nil], P.mono (hid_sub s1) (hid_sub s1) r1, o.frame ho (hid_sub s1) (fun _ _ _ z _ => z), nd1, fun q hq z => ?_, fun q hq => I1.dom q (s1 q hq), I1.tab,
      (good_nox (R' := fun _ => False) kk).mono (fun rd _ kk x H2 F' st new nd dm rx ro => ?_) fun c kk => kk⟩
    · rcases List.mem_append.mp z with z | z
      · exact I1.dj q (sub q hq) z
      · have := (List.mem_filter.mp z).2
        simp only [decide_eq_true_eq] at this
        exact this hq
    · obtain ⟨F2, _, m2, m1, st2, fin⟩ := cl H2 F' st new nd dm
      have s2 : ∀ q ∈ O ++ F2, q ∈ (O ++ F.filter fun q => decide (q ∉ Fd)) ++ F' := fun q hq => by
        rcases List.mem_append.mp hq with z | z
        · exact List.mem_append_left _ (List.mem_append_left _ z)
        · rcases m2 q z with z | ⟨z1, z2⟩
          · exact List.mem_append_right _ z
          · exact List.mem_append_left _ (List.mem_append_right _ (List.mem_filter.mpr ⟨z1, decide_eq_true z2⟩))
      have r2 := fin (some rd.2) (some v) ⟨(fun z => nomatch z), fun a ha => ⟨v, rfl, by cases ha; exact o.frame ro (hid_sub s2) fun _ _ _ z _ => z⟩⟩
      rw [set_self hv] at r2
      exact ⟨rd.1, rx, kk H2 F2 ((Step.same e1).trans st2) r2⟩
theorem ftu_not {t : TT} {f : ε → Rs (Bool × ε)} (h : FTU D X K R a t f) : FTU D X K R (.UnaryOp .Not a pos) (tNot t) (fun E => (f E).bind fun bE => .ok (!bE.1, bE.2)) := by
  cases h.hK
  exact ⟨rfl, pt_not h.pt, fun H O F E σ I Q k => h.sem H O F E σ I _ ((good_bind k).mono (fun _ _ k => k) fun _ k => k)⟩
def dOrU (f : ε → Rs Bool) (g : ε → Rs (Bool × ε)) : ε → Rs (Bool × ε) := fun E => (f E).bind fun c => if c = true then .ok (true, E) else g E
theorem ftu_or {ta tb : TT} {f : ε → Rs Bool} {g : ε → Rs (Bool × ε)} (ha : FT D X K R a ta f) (hb : FTU D X K R b tb g) : FTU D X K R (.BoolOp .Or [a, b] pos) (tOr ta tb) (dOrU f g) := by
  cases ha.hK
  exact ⟨rfl, (pw_or ha.pt (pw_or1 hb.pt)).pt, fun H O F E σ I Q k => ha.sem H O F E σ I _ ((good_bind k).mono (fun c _ k H1 e1 => by
    cases c with
    | false => exact hb.sem H1 O F E σ (I.same e1) Q (Good.mono (show Good (g E) _ _ from k) (fun bE _ k H2 F2 s2 I2 => k H2 F2 ((Step.same e1).trans s2) I2) fun c k H2 k2 => k H2 ((Step.same e1).stab k2))
    | true => exact k H1 F (Step.same e1) (I.same e1)) fun c k => exS k)⟩
def dIteU (c : ε → Rs (Bool × ε)) (f g : ε → Rs (Fl ε ρ)) : ε → Rs (Fl ε ρ) := fun E => (c E).bind fun bE => if bE.1 = true then f bE.2 else g bE.2
theorem fs_ifU {tc : TT} {fc : ε → Rs (Bool × ε)} {b1 b2 : List Stmt} {t u : TS} {f g : ε → Rs (Fl ε ρ)} (hc : FTU D X K R c tc fc) (h1 : FSs D X K R rr b1 t f) (h2 : FSs D X K R rr b2 u g) : FS D X K R rr (.If c b1 b2 pos) (tIfS tc t u) (dIteU fc f g) := by
  cases hc.hK
  exact ⟨rfl, ps_if hc.pt h1.ps h2.ps, fun H O F E σ I Dn k => hc.sem H O F E σ I _ ((good_bind k).mono (fun bE _ k H1 F1 s1 I1 => by
    obtain ⟨b, E1⟩ := bE
    cases b with
    | true => exact h1.sem H1 O F1 E1 σ I1 Dn (Good.mono (show Good (f E1) _ _ from k) (fun fl _ q => q.step s1) fun c q H2 k2 => q H2 (s1.stab k2))
    | false => exact h2.sem H1 O F1 E1 σ I1 Dn (Good.mono (show Good (g E1) _ _ from k) (fun fl _ q => q.step s1) fun c q H2 k2 => q H2 (s1.stab k2))) fun _ k => k)⟩
end
end Fx

/-! Fx43: slices with a step below 0; a pair turned round. -/
namespace L2
open PySem PySem.Spec PyProof.Rows
variable {X : Cx}
theorem pe_stepN [Fx.Tbs] {e : Expr} {te : TE} {lo hi : Option Expr} {tl th : TO} {s : Int} {k : Nat} {p1 p4 p3 pos : Pos} (hs0 : 0 < s) (he : PE X e te) (hl : PO X lo tl) (hh : PO X hi th) : PE X (.Subscript e (.Slice lo hi (some (.UnaryOp .USub (.Constant (.int s) k p1) p4)) p3) pos) (Fx.tStep X.K (-s) te tl th) := by
  refine ⟨fun pins s0 σ H Q I h => ?_⟩
  refine Subscript_ (thn (he.run pins s0 σ H _ I h) fun v s1 ⟨x, H1, I1, r1, q1⟩ => ?_)
  have hst : PO X (some (.UnaryOp .USub (.Constant (.int s) k p1) p4)) (tPart (tUn (rU fun i => .int (-i)) (tC (.int s)))) := po_some (pe_un un_neg pe_int)
  refine wpAny_Slice (thn (hl.run pins s1 σ H1 _ I1 q1) fun vl s2 ⟨l, H2, I2, pl, q2⟩ => ?_)
  refine thn (hh.run pins s2 σ H2 _ I2 q2) fun vu s3 ⟨u, H3, I3, pu, q3⟩ => ?_
  obtain ⟨a, xs, ex, hx, q⟩ := q3
  subst ex
  cases r1
  refine thn (hst.run pins s3 σ H3 (fun o H4 => o = some (-s) ∧ H4 = H3) I3 ⟨s, rfl, -s, rfl, rfl, rfl⟩) fun vs s4 ⟨o, H4, I4, ps, eo, e4⟩ => ?_
  subst eo e4
  have I5 : Inv X pins σ H4 { s4 with heap := s4.heap.push { cls := .type "slice", data := .fields #[vl, vu, vs] } } := I4.kept (t' := s4.toks) fun b ob q => Heap.get?_push_of_some _ q
  obtain ⟨its, r, ht, hz⟩ := I5.list hx
  have hlen := r.length
  show wpAny (model X.prog X.w) X.A (subscriptTail e (.Slice lo hi (some (.UnaryOp .USub (.Constant (.int s) k p1) p4)) p3) (.ref a) (.ref s4.heap.objs.size)) (EP X pins σ Q) X.xe { s4 with heap := s4.heap.push { cls := .type "slice", data := .fields #[vl, vu, vs] } }
  refine tail_any (ops := [.ref a, .ref s4.heap.objs.size]) ht.isList.typeIs (PySem.slot_list_getitem.lookup) ?_ (by with_unfolding_all rfl)
  refine wpAny_getItem_list_slice ht.isList (Heap.IsSliceOf.new _ vl vu vs) pl pu ps (by intro z; have := Option.some.inj z; omega) ?_ (by rw [List.size_toArray]; omega)
  rw [stepF_toArray]
  have rp : Paired RelV (Fx.stepF (-s) l u xs) (Fx.stepF (-s) l u its) := by
    have := Fx.paired_pick r (sliceRange (sliceBounds l u (some (-s)) xs.length).1 (sliceBounds l u (some (-s)) xs.length).2.1 (sliceBounds l u (some (-s)) xs.length).2.2)
    unfold Fx.stepF
    rw [← hlen]
    exact this
  refine ⟨.ref _, _, I5.laid (t' := s4.toks) (o := .lst (Fx.stepF (-s) l u xs)) (fun b ob q => Heap.get?_push_of_some _ q) (Nat.le_refl _) ?_, rfl, q _ (I5.hok.fresh (Nat.le_refl _))⟩
  have sz : (Fx.stepF (-s) l u xs).length ≤ xs.length := by
    have := slicePick_size_le (xs.map fun _ => Value.none).toArray l u (some (-s))
    rw [stepF_toArray] at this
    have e : (Fx.stepF (-s) l u (xs.map fun _ => Value.none)).length = (Fx.stepF (-s) l u xs).length := by
      have p : Paired (fun (a : V) (b : Value) => b = Value.none) xs (xs.map fun _ => Value.none) := by
        clear this hlen r rp q hx hz
        induction xs with
        | nil => exact .nil
        | cons x xs ih => exact .cons rfl ih
      have p2 := Fx.paired_pick p (sliceRange (sliceBounds l u (some (-s)) xs.length).1 (sliceBounds l u (some (-s)) xs.length).2.1 (sliceBounds l u (some (-s)) xs.length).2.2)
      unfold Fx.stepF
      rw [List.length_map]
      exact (Fx.Paired.len p2).symm
    rw [List.size_toArray, e, List.size_toArray, List.length_map] at this
    exact this
  exact ⟨Nat.le_trans sz hz, _, 0, rp, Heap.get?_push_size _ rfl⟩

/-! ### (a, b)[::-1] -/
theorem sliceApplied_rev {prog : Program} {w : World} {A : Around} {E : Int × Int × Nat → Shared → Prop} {s : Shared} {E2 : Value → Shared → Prop} {sl : Addr} {u : Tok} {Q : Int × Int × Nat → Shared → Prop} (hs : s.heap.IsSliceOf sl .none .none (.int (-1) u))
    (h : Q (1, -1, 2) s) : wpAny (model prog w) A (Builtin.Slice.sliceApplied (.ref sl) (pure ((2 : Nat) : Int))) Q E2 s := by
  obtain ⟨os, hos, hcs, hds⟩ := id hs
  unfold Builtin.Slice.sliceApplied Builtin.Slice.sliceFields
  refine wpAny_bind (wpAny_bind (wpAny_field hos hds (x := .none) rfl (wpAny_bind (wpAny_field hos hds (x := .none) rfl (wpAny_bind (wpAny_field hos hds (x := .int (-1) u) rfl (wpAny_pure ?_)))))))
  refine wpAny_bind (HT.slicePart_ (.int (-1) u) ?_)
  show wpAny _ _ (if ((-1 : Int) == 0) = true then _ else _) _ _ s
  rw [if_neg (by decide)]
  refine wpAny_bind (HT.slicePart_ .none (wpAny_bind (HT.slicePart_ .none (wpAny_bind (wpAny_pure ?_)))))
  exact wpAny_pure h
def tRevT2 (K : PySem.W.Frag) (te : TE) : TE := fun σ H Q => te σ H fun x H1 => ∃ a v1 v2, x = .ref a ∧ SqT K H1 a [v1, v2] ∧ ∀ p, H1 p = none → Q (.ref p) (upd H1 p (.tup [v2, v1]))
theorem getItem_tuple_rev {prog : Program} {w : World} {A : Around} {E : Value → Shared → Prop} {s : Shared} {t sl : Addr} {a b : Value} {u : Tok} {Q : Value → Shared → Prop} (ht : IsTup s.heap t #[a, b]) (hs : s.heap.IsSliceOf sl .none .none (.int (-1) u))
    (h : Q (.ref s.heap.objs.size) { s with heap := s.heap.push { cls := .type "tuple", data := .seq #[b, a] } }) : wpAny (model prog w) A (getItem (.ref t) (.ref sl)) Q E s := by
  have htake : sizeOk (.seq #[b, a]) := by
    show (2 : Nat) ≤ sizeLine
    decide
  obtain ⟨os, hos, hcs, hds⟩ := id hs
  have hTs : s.TypeIs (.ref sl) "slice" := ⟨os, hos, hcs⟩
  unfold getItem
  try with_reducible refine wpAny_holding ?_
  first | refine wpAny_bind (wpAny_pure ?_) | skip
  refine wpAny_bind (wpAny_sequenceKey ht.typeIs (by decide) ?_)
  refine wpAny_bind (wpAny_callSpecial?_slot (name := Str.ofString "__getitem__") ht.typeIs PyProof.Rows.slot_tuple_getitem
    (wpAny_call_entry PyProof.Rows.slot_tuple_getitem ht.typeIs entry_tuple_getitem ?_ (args_tuple_getitem _ _)))
  show wpAny _ _ (Builtin.Tuple.tupleItemsOf (.ref t) >>= _) _ _ s
  refine wpAny_bind (tupleItemsOf_ ht ?_)
  refine wpAny_bind (wpAny_typeOf hTs ?_)
  rw [if_pos (by decide)]
  refine wpAny_bind (sliceApplied_rev (E := fun _ _ => True) hs ?_)
  first
    | exact wpAny_bind (m := Builtin.Tuple.tupleExact _) (wpAny_newObj_type (wpAny_pure ⟨_, rfl, wpAny_pure h⟩) htake)
    | exact wpAny_bind (m := Builtin.Tuple.tupleExact _) (wpAny_newObj_type (wpAny_bind (wpAny_pure (wpAny_pure ⟨_, rfl, wpAny_pure h⟩))) htake)
    | exact wpAny_bind (wpAny_bind (m := Builtin.Tuple.tupleExact _) (wpAny_newObj_type (wpAny_pure (wpAny_pure ⟨_, rfl, wpAny_pure h⟩)) htake))
    | exact wpAny_bind (wpAny_bind (m := Builtin.Tuple.tupleExact _) (wpAny_newObj_type (wpAny_pure ⟨_, rfl, wpAny_pure h⟩) htake))
theorem pe_revT2 {e : Expr} {te : TE} {k : Nat} {p1 p2 p3 pos : Pos} (he : PE X e te) : PE X (.Subscript e (.Slice none none (some (.UnaryOp .USub (.Constant (.int 1) k p1) p2)) p3) pos) (tRevT2 X.K te) := by
  refine ⟨fun pins s σ H Q I h => ?_⟩
  refine Subscript_ (thn (he.run pins s σ H _ I h) fun v s1 ⟨x, H1, I1, r1, q1⟩ => ?_)
  obtain ⟨a, v1, v2, ex, hx, q⟩ := q1
  subst ex
  cases r1
  have hst : PE X (.UnaryOp .USub (.Constant (.int 1) k p1) p2) (tUn (rU fun i => .int (-i)) (tC (.int 1))) := pe_un un_neg pe_int
  refine wpAny_Slice (thn (po_none.run pins s1 σ H1 (fun o H2 => o = none ∧ H2 = H1) I1 ⟨rfl, rfl⟩) fun vl s2 ⟨l, H2, I2, pl, el, e2⟩ => ?_)
  subst el e2
  refine thn (po_none.run pins s2 σ H2 (fun o H3 => o = none ∧ H3 = H2) I2 ⟨rfl, rfl⟩) fun vu s3 ⟨u, H3, I3, pu, eu, e3⟩ => ?_
  subst eu e3
  have hso : PO X (some (.UnaryOp .USub (.Constant (.int 1) k p1) p2)) (tPart (tUn (rU fun i => .int (-i)) (tC (.int 1)))) := po_some hst
  refine thn (hso.run pins s3 σ H3 (fun o H4 => o = some (-1) ∧ H4 = H3) I3 ⟨1, rfl, -1, rfl, rfl, rfl⟩) fun vs s4 ⟨o, H4, I4, ps, eo, e4⟩ => ?_
  subst eo e4
  cases pl
  cases pu
  cases ps with
  | int i u =>
    have I5 : Inv X pins σ H4 { s4 with heap := s4.heap.push { cls := .type "slice", data := .fields #[.none, .none, .int (-1) u] } } := I4.kept (t' := s4.toks) fun b ob q => Heap.get?_push_of_some _ q
    obtain ⟨its, r, ht, hz⟩ := I5.tuple hx
    cases r with
    | cons ra r =>
      cases r with
      | cons rb r =>
        cases r
        have hq := getItem_tuple_rev (prog := X.prog) (w := X.w) (A := X.A) (E := X.xe) (Q := EP X pins σ Q) ht (Heap.IsSliceOf.new _ _ _ _) ⟨.ref _, _, I5.laid (t' := s4.toks) (o := .tup [v2, v1]) (fun b ob q => Heap.get?_push_of_some _ q) (Nat.le_refl _) ⟨show 2 ≤ sizeLine by decide, _, .cons rb (.cons ra .nil), IsTup.new _ _⟩, rfl, q _ (I5.hok.fresh (Nat.le_refl _))⟩
        show wpAny (model X.prog X.w) X.A (subscriptTail e (.Slice none none (some (.UnaryOp .USub (.Constant (.int 1) k p1) p2)) p3) (.ref a) (.ref s4.heap.objs.size)) (EP X pins σ Q) X.xe { s4 with heap := s4.heap.push { cls := .type "slice", data := .fields #[.none, .none, .int (-1) u] } }
        exact tail_any (ops := [.ref a, .ref s4.heap.objs.size]) ht.typeIs (PyProof.Rows.slot_tuple_getitem.lookup) hq (by with_unfolding_all rfl)
end L2
namespace Fx
open PySem PySem.Spec L2
variable [Tbs]
section
variable {ε α β π : Type} {D : EnvD ε} {X : Cx} {K : PySem.W.Frag} {R : Str → Hp → Prop} {m : Md} {r : Rp α} {rb : Rp β} {e : Expr} {te : TE} {pos : Pos} {P : PD π}
theorem stepF_lenN {s : Int} (lo hi : Option Int) (xs : List α) : (stepF s lo hi xs).length ≤ xs.length := by
  have := slicePick_size_le (xs.map fun _ => Value.none).toArray lo hi (some s)
  rw [stepF_toArray] at this
  have e : (stepF s lo hi (xs.map fun _ => Value.none)).length = (stepF s lo hi xs).length := by
    have p : Paired (fun (a : α) (b : Value) => b = Value.none) xs (xs.map fun _ => Value.none) := by
      clear this
      induction xs with
      | nil => exact .nil
      | cons x xs ih => exact .cons rfl ih
    have p2 := paired_pick p (sliceRange (sliceBounds lo hi (some s) xs.length).1 (sliceBounds lo hi (some s) xs.length).2.1 (sliceBounds lo hi (some s) xs.length).2.2)
    unfold stepF
    rw [List.length_map]
    exact (Paired.len p2).symm
  rw [List.size_toArray, e, List.size_toArray, List.length_map] at this
  exact this
theorem fe_stepN {s : Int} {j : Nat} {p1 p4 p2 : Pos} {f : ε → Rs (List α)} {lo hi : Option Expr} {tl th : TO} {fl fh : ε → Rs (Option Int)} (ha : FE D X K R m e te (rList r) f) (hl : FO D X K R lo tl fl) (hh : FO D X K R hi th fh) (hs : 0 < s := by decide) :
    FE D X K R m (.Subscript e (.Slice lo hi (some (.UnaryOp .USub (.Constant (.int s) j p1) p4)) p2) pos) (tStep K (-s) te tl th) (rList r) (dStep (-s) f fl fh) := by
  cases ha.hK
  exact ⟨rfl, pe_stepN hs ha.pe hl.po hh.po, fun H O F E σ I Q k =>
  ha.sem H O F E σ I _ ((good_bind k).mono (fun xs _ k v H1 e1 r1 => hl.sem H1 O F E σ (I.same e1) _ ((good_bind k).mono (fun l _ k H2 e2 => hh.sem H2 O F E σ (I.same (e1.trans e2)) _ ((good_bind k).mono (fun u _ k H3 e3 => by
    have r3 := (rList r).mono (hidM_sm (e2.trans e3)) r1
    obtain ⟨p, vs, h1, h2, hz, h3⟩ := r3
    subst h1
    refine ⟨p, vs, rfl, .inl (.inl (hidM_low.get _ _ h2)), fun n hn => ?_⟩
    have s1 := Fx.same_upd (o := .lst (stepF (-s) l u vs)) hn
    have rp : Paired (r.rp X.K (hidM m O F H3)) (stepF (-s) l u xs) (stepF (-s) l u vs) := by
      have := paired_pick h3 (sliceRange (sliceBounds l u (some (-s)) xs.length).1 (sliceBounds l u (some (-s)) xs.length).2.1 (sliceBounds l u (some (-s)) xs.length).2.2)
      unfold stepF
      rw [← Paired.len h3]
      exact this
    exact k _ _ (((e1.trans e2).trans e3).trans s1) ⟨n, _, rfl, hidM_new (Dom.same I.dom ((e1.trans e2).trans e3)) hn, Nat.le_trans (stepF_lenN _ _ _) hz, Paired.imp rp fun _ _ => r.mono (hidM_sm s1)⟩)
    fun c k H3 e3 => k H3 ((e1.trans e2).trans e3))) fun c k H2 e2 => k H2 (e1.trans e2))) fun _ k => k)⟩

theorem fe_revT2 {k : Nat} {p1 p2 p3 : Pos} {f : ε → Rs (α × β × Unit)} (ha : FE D X K R m e te (rTup (pC true r (pC true rb pNil))) f) :
    FE D X K R m (.Subscript e (.Slice none none (some (.UnaryOp .USub (.Constant (.int 1) k p1) p2)) p3) pos) (tRevT2 K te) (rTup (pC true rb (pC true r pNil))) (d1 (fun x => some (x.2.1, x.1, ())) f) := by
  cases ha.hK
  exact ⟨rfl, pe_revT2 ha.pe, fun H O F E σ I Q k => ha.sem H O F E σ I _ ((good_bind k).mono (fun x _ k v H1 e1 r1 => by
    obtain ⟨p0, vs, rfl, hp0, u1, us1, rfl, ru1, u2, us2, rfl, ru2, rfl⟩ := r1
    refine ⟨p0, u1, u2, rfl, .inl (.inl (hidM_low.get _ _ hp0)), fun p hp => ?_⟩
    have s1 := Fx.same_upd (o := .tup [u2, u1]) hp
    exact k _ _ (e1.trans s1) ⟨p, [u2, u1], rfl, hidM_new (Dom.same I.dom e1) hp, u2, [u1], rfl, rb.mono (hidM_sm s1) ru2, u1, [], rfl, r.mono (hidM_sm s1) ru1, rfl⟩) fun c k => k)⟩
end
end Fx

/-! Fx44: range of three; dicts that are given away (frozen): read, asked, walked over. -/
namespace L2
open PySem PySem.Spec
variable {X : Cx}
/-- the thing at d is frozen for good -/
def tFrz (t : TS) : TS := fun D σ H => ∃ d u, H d = some u ∧ Mut (some u) ∧ ∀ od, t D σ (upd H d (.frz od u))
theorem ps_frz {st : Stmt} {t : TS} (h : PS X st t) : PS X st (tFrz t) := by
  refine ⟨fun pins s σ H D I hw => ?_⟩
  obtain ⟨d, u, hd, mu, hw⟩ := hw
  obtain ⟨od, I1⟩ := I.lock hd mu
  exact h.run pins s σ _ _ I1 (hw od)
end L2
namespace Fx
open PySem PySem.Spec L2
section
variable {κ α : Type} [DecidableEq κ]
def rDictZ (y : Ky κ) (r : Rp α) : Rp (List (κ × α)) :=
  ⟨fun K H kvs v => ∃ a o vs, v = .ref a ∧ H a = some (.frz o (.dK vs)) ∧ kvs.length ≤ sizeLine ∧ Paired (DRel y r K H) kvs vs, fun e ⟨a, o, vs, h1, h2, hl, h3⟩ => ⟨a, o, vs, h1, e.get _ _ h2, hl, Paired.imp h3 fun _ _ q => q.mono e⟩⟩
theorem nn_dictZ {y : Ky κ} {r : Rp α} : ∀ (K : PySem.W.Frag) (H : Hp) (x : List (κ × α)) (v : V), (rDictZ y r).rp K H x v → v ≠ .non := fun K H x v ⟨p, o, vs, h1, _⟩ z => by rw [h1] at z; cases z
end
variable [Tbs]
section
variable {ε κ α β ρ : Type} [DecidableEq κ] {D : EnvD ε} {X : Cx} {K : PySem.W.Frag} {R : Str → Hp → Prop} {rr : RetD ρ} {m ma mb : Md} {e o ix a b c tg : Expr} {te ta tb tc ti : TE} {r : Rp α} {y : Ky κ} {pos pos' : Pos} {cm : Bool}
/-! ### range(a, b, c) -/
noncomputable def rng3F (lo hi st : Int) : Option (List Int) := cIf (RgC lo hi st (Builtin.Range.rangeSize lo hi st).toNat ∧ (Builtin.Range.rangeSize lo hi st).toNat ≤ sizeLine) (some ((List.range (Builtin.Range.rangeSize lo hi st).toNat).map fun (i : Nat) => lo + (i : Int) * st)) none
theorem yld_rng3 {K : PySem.W.Frag} {lo st : Int} {n : Nat} {B C : Hp} : Yld K (Itc lo st n) rInt ((List.range n).map fun (i : Nat) => lo + (i : Int) * st) B C := fun H2 e2 _ => ⟨fun i a ha => by
    rw [List.getElem?_map] at ha
    by_cases h : i < n
    · rw [List.getElem?_range h] at ha
      cases ha
      exact ⟨h, fun x H' y => y⟩
    · rw [List.getElem?_eq_none (by rw [List.length_range]; omega)] at ha
      exact absurd ha (by simp), fun i hi => by rw [List.length_map, List.length_range] at hi; exact hi⟩
noncomputable def dRng3 (f g h : ε → Rs Int) : ε → Rs (List Int) := fun E => (f E).bind fun i => (g E).bind fun j => (h E).bind fun k => ofO (rng3F i j k)
theorem fi_rng3 {p : Pos} {f g h : ε → Rs Int} (hg : Gl X "range") (hm : X.mg "range" = none) (h1 : FE D X K R ma a ta rInt f) (h2 : FE D X K R mb b tb rInt g) (h3 : FE D X K R m c tc rInt h)
    (hs : starEach [a, b, c] X.env = (false, eval a X.env) :: starEach [b, c] X.env := by rfl) (hpl : (backTo pos (starEach [b, c] X.env)).any (·.1) = false := by rfl)
    (he2 : starEach (b :: [c]) X.env = (false, eval b X.env) :: starEach [c] X.env := by rfl) (he3 : starEach (c :: []) X.env = (false, eval c X.env) :: starEach [] X.env := by rfl) :
    FI cm D X K R mS tg (.Call (.Name "range" p) [a, b, c] [] pos) (iRng3 (tCons ta (tCons tb (tCons tc tNil)))) rInt (dRng3 f g h) := by
  cases h1.hK
  exact ⟨rfl, pi_range3 hg hm (pa_cons h1.pe (pa_cons h2.pe (pa_cons h3.pe pa_nil he3) he2) hs) hs hpl, fun H O F E σ I Q k =>
  h1.sem H O F E σ I _ ((good_bind k).mono (fun i _ k v H1 e1 r1 => h2.sem H1 O F E σ (I.same e1) _ ((good_bind k).mono (fun j _ k w H2 e2 r2 => h3.sem H2 O F E σ (I.same (e1.trans e2)) _ ((good_bind k).mono (fun l _ k u H3 e3 r3 => by
    unfold rng3F at k
    by_cases q : RgC i j l (Builtin.Range.rangeSize i j l).toNat ∧ (Builtin.Range.rangeSize i j l).toNat ≤ sizeLine
    · rw [cIf_pos q] at k
      exact ⟨i, j, l, _, by rw [show v = V.int i from r1, show w = V.int j from r2, show u = V.int l from r3], q.1, k (by rw [List.length_map, List.length_range]; exact q.2) _ H3 ((e1.trans e2).trans e3) yld_rng3⟩
    · rw [cIf_neg q] at k; exact k.elim) fun c k H3 e3 => k H3 ((e1.trans e2).trans e3))) fun c k H2 e2 => k H2 (e1.trans e2))) fun _ k => k)⟩
/-! ### read, asked -/
theorem dgetZ_at {K : PySem.W.Frag} {H : Hp} {O F : List Addr} {x : List (κ × α)} {k : κ} {v w : V} (h1 : (rDictZ y r).rp K (hidM m O F H) x v) (h2 : y.v.rp K (hidM mb O F H) k w) : ∃ p vs, v = .ref p ∧ DGet H p w (valV vs (y.key k)) ∧ Paired (DRel y r K (hidM m O F H)) x vs := by
  obtain ⟨p, o, vs, e1, e2, _, e4⟩ := h1
  rw [y.kv h2]
  exact ⟨p, vs, e1, .inl ⟨vs, y.key k, .inr ⟨o, hidM_low.get _ _ e2⟩, rfl, rfl⟩, e4⟩
theorem b_dgetZ {K : PySem.W.Frag} : Bin K m mb m qDGet (rDictZ y r) y.v r valD := fun H O F x k z v w d h1 h2 e Q q => by
  obtain ⟨p, vs, rfl, g, pr⟩ := dgetZ_at h1 h2
  rcases val_rel (k := k) pr with ⟨z1, _⟩ | ⟨a, u, z1, z2, z3⟩
  · rw [e] at z1; cases z1
  · rw [e] at z1
    cases z1
    rw [z2] at g
    exact ⟨p, u, rfl, g, q u H (Same.refl H) z3⟩
theorem b_dinZ {K : PySem.W.Frag} : Bin K mb m ma qDIn y.v (rDictZ y r) rBool inD := fun H O F k x z w v d h2 h1 e Q q => by
  obtain ⟨p, vs, rfl, g, pr⟩ := dgetZ_at h1 h2
  refine ⟨p, _, rfl, g, q _ H (Same.refl H) ?_⟩
  unfold inD at e
  cases e
  show V.bl _ = V.bl _
  rcases val_rel (k := k) pr with ⟨z1, z2⟩ | ⟨a, u, z1, z2, z3⟩
  · rw [z1, z2]; rfl
  · rw [z1, z2]; rfl
theorem fe_dgetZ {f : ε → Rs (List (κ × α))} {g : ε → Rs κ} (hu : X.A.units + 65 < cLine) (ha : FE D X K R m a ta (rDictZ y r) f) (hb : FE D X K R mb b tb y.v g) (hs : NoSl b := by intro _ _; rfl) : FE D X K R m (.Subscript a b pos) (tDGet ta tb) r (d2 valD f g) := by
  cases ha.hK
  exact ⟨rfl, pe_dget (by omega) ha.pe hb.pe hs, SemE.bin b_dgetZ ha.sem hb.sem⟩
theorem fe_dinZ {f : ε → Rs (List (κ × α))} {g : ε → Rs κ} (hu : X.A.units + 65 < cLine) (hb : FE D X K R mb b tb y.v g) (ha : FE D X K R m a ta (rDictZ y r) f) (hm : behindInMarks .In a = false := by first | exact nomark _ | rfl) : FE D X K R ma (.Compare b [.In] [a] pos) (tDIn tb ta) rBool (d2 inD g f) := by
  cases ha.hK
  exact ⟨rfl, pe_cmp (pc_din (by omega) hb.pe ha.pe) hm, SemE.bin b_dinZ hb.sem ha.sem⟩
theorem ft_dinZ {f : ε → Rs (List (κ × α))} {g : ε → Rs κ} (hu : X.A.units + 65 < cLine) (hb : FE D X K R mb b tb y.v g) (ha : FE D X K R m a ta (rDictZ y r) f) (hm : behindInMarks .In a = false := by first | exact nomark _ | rfl) : FT D X K R (.Compare b [.In] [a] pos) (tB (tDIn tb ta)) (d2 inD g f) := by
  cases ha.hK
  exact ⟨rfl, pt_cmp (pc_din (by omega) hb.pe ha.pe) hm, fun H O F E σ I Q k => show tOp qDIn tb ta σ H (fun x H1 => ∃ c, x = .bl c ∧ Q c H1) from SemE.bin (m := mS) b_dinZ hb.sem ha.sem H O F E σ I (fun x H1 => ∃ c, x = .bl c ∧ Q c H1) (k.mono (fun v _ k u H' e1 e2 => ⟨v, e2, k H' e1⟩) fun c k => k)⟩
end
section
variable {ε ρ α : Type} {D D' : EnvD ε} {X : Cx} {K : PySem.W.Frag} {R : Str → Hp → Prop} {m : Md} {e tg : Expr} {te : TE} {r : Rp α} {y : Ky Int} {pos : Pos}
/-! ### walked over -/
theorem fi_keysZ {cm : Bool} {f : ε → Rs (List (Int × α))} (h : FE D X K R m e te (rDictZ kyI r) f) : FI cm D X K R m tg e (iKeys te) rInt (d1 (fun kvs => some (kvs.map (·.1))) f) := by
  cases h.hK
  exact ⟨rfl, pi_keys h.pe, fun H O F E σ I Q k => h.sem H O F E σ I _ ((good_bind k).mono (fun kvs _ k v H1 e1 r1 => by
    obtain ⟨a, o, vs, rfl, h2, hl, h3⟩ := r1
    have k : (kvs.map (·.1)).length ≤ sizeLine → _ := k
    refine ⟨a, o, rfl, .inl ⟨vs, hidM_low.get _ _ h2, k (by rw [List.length_map]; exact hl) _ H1 e1 fun H2 e3 _ => ?_⟩⟩
    have hd := e3.get _ _ h2
    refine ⟨fun i x hx => ?_, fun i hi => ⟨hd, by rw [List.length_map] at hi; rw [← Paired.len h3]; exact hi⟩⟩
    rw [List.getElem?_map] at hx
    cases ek : kvs[i]? with
    | none => rw [ek] at hx; cases hx
    | some kv =>
      rw [ek] at hx
      have hx : kv.1 = x := Option.some.inj hx
      obtain ⟨b, g1, g2⟩ := Paired.get h3 ek
      refine ⟨⟨hd, (List.getElem?_eq_some_iff.mp g1).1⟩, fun z H' yy => ?_⟩
      obtain ⟨y1, kk, vv, y2, y3⟩ := yy
      rw [g1] at y2
      cases y2
      refine ⟨y1, ?_⟩
      rw [y3, show kk = Sum.inl kv.1 from g2.1, hx]
      rfl) fun c k => k)⟩
/-! ### an owned dict given away with the answer -/
variable {κ : Type} [DecidableEq κ] {yk : Ky κ}
theorem fs_retZ {i : Nat} {gt : ε → Option (List (κ × α))} {pt : ε → Option (List (κ × α)) → ε} {rho : Rp ρ} {f : ε → Rs ρ} (L : Ln D D' i (sO (oDict yk r)) (sS true (rDictZ yk r)) gt pt) (h : FE D' X K R mF e te rho f) :
    FS D X K R (retS rho) (.Return (some e) pos) (tFrz (tRet te)) (fun E => (ofO (gt E)).bind fun _ => (f (pt E (gt E))).bind fun a => .ok (.rt a) : ε → Rs (Fl ε ρ)) := by
  cases h.hK
  exact ⟨rfl, ps_frz (ps_ret h.pe), fun H O F E σ I Dn k => by
    have k := good_bind k
    cases eg : gt E with
    | none => rw [eg] at k; exact k.elim
    | some kvs =>
      rw [eg] at k
      have k : Good ((f (pt E (some kvs))).bind fun a => Rs.ok (Fl.rt a)) (FlPost D X.K (retS rho) O F H Dn) (fun c => ∀ (H' : Hp), Stab F H H' → R c H') := k
      obtain ⟨F1, w, sub, nd1, hw, hs, cl⟩ := RelF.slot L I
      rw [eg] at hs
      obtain ⟨v, rfl, p, vs, e2, e3, e4, e5, e6⟩ := hs.2 _ rfl
      subst e2 e3
      have hpF : p ∈ F := sub p (by simp)
      refine ⟨p, .dK vs, e4, trivial, fun od => ?_⟩
      obtain ⟨F2, _, m2, _, st, fin⟩ := cl (upd H p (.frz od (.dK vs))) [] (stab_of e4 nt_dK fun c x z => by unfold LamX.CodeO at z; cases z) (fun q hq => nomatch hq) List.nodup_nil (fun q hq => nomatch hq)
      have nF2 : p ∉ F2 := fun z => by
        rcases m2 p z with q | ⟨_, q⟩
        · cases q
        · exact q (by simp)
      have sF2 : ∀ q ∈ F2, q ∈ F := fun q hq => by
        rcases m2 q hq with z | z
        · cases z
        · exact z.1
      have wk : Wk (hid (O ++ F) H) (hid (O ++ F2) (upd H p (.frz od (.dK vs)))) := .mk fun a o z nt => by
        obtain ⟨z1, z2⟩ := hid_some z
        have ap : a ≠ p := fun q => z1 (by rw [q]; exact List.mem_append_right _ hpF)
        rw [hid_out fun q => z1 (by
          rcases List.mem_append.mp q with q | q
          · exact List.mem_append_left _ q
          · exact List.mem_append_right _ (sF2 a q)), upd_ne ap]
        exact z2
      have r2 := fin (some kvs) (some (.ref p)) ⟨rfl, fun a ha => ⟨.ref p, rfl, by
        cases ha
        refine ⟨p, od, vs, rfl, ?_, e5, Paired.imp e6 fun _ _ q => q.mono wk⟩
        show hid (O ++ F2) _ p = _
        rw [hid_out fun q => by
          rcases List.mem_append.mp q with q | q
          · exact I.dj p hpF q
          · exact nF2 q]
        exact upd_same⟩⟩
      rw [set_self hw] at r2
      exact h.sem _ O F2 _ σ r2 _ ((good_bind k).mono (fun a _ k v H2 e2 r3 => k v H2 [] (st.trans (Step.same e2)).1 (fun q hq => nomatch hq) List.nodup_nil (fun q hq => nomatch hq) ⟨rfl, rho.mono (hid_sub fun q hq => by simpa using hq) r3⟩) fun c k H2 e2 => k H2 (st.trans (Step.same e2)).1)⟩
end
end Fx

/-! Fx45: instances without fields: made, asked by isinstance, called by methods of their class. -/
namespace L2
open PySem PySem.Spec PyProof.Rows
/-- what a class without own __init__ must have to be made -/
structure Mk0 (K : PySem.W.Frag) (C : Addr) : Prop where
  makes : PySem.W.makesIn K C = true
  init : PySem.W.findIn K (.ref C) "__init__" = some (some (.builtin "object.__init__"))
  kp : PySem.W.keepIn K (.ref C) = true
section
variable {X : Cx} {CX : CXT} {k : Nat} {C : Addr} {sp : Sp} {E : XK} {x m : Str} {p pos apos : Pos} {e o : Expr} {es : List Expr} {ta : TE} {t : TA} {pins : List (Addr × Obj)} {σ : St} {H : Hp} {s : Shared} {Q : VK}
theorem made_plain0 {prog : Program} {w : World} {A : Around} {K : PySem.W.Frag} {C : Addr} {s : Shared} {R : Result → Shared → Prop} (X : K.In s.heap) (hm : PySem.W.makesIn K C = true) (hi : PySem.W.findIn K (.ref C) "__init__" = some (some (.builtin "object.__init__")))
    (h : R (.ok (.ret (.ref (s.heap.objs.size + 1)))) { s with heap := (s.heap.push PySem.W.emptyDict).push (PySem.W.instObj C s.heap.objs.size) }) : codeAny (model prog w) A (.call (.ref C) ⟨[], []⟩) R s := by
  obtain ⟨hh, g, d, t, os⟩ := s
  have Y := PySem.W.makes_of (M := model prog w) X hm
  refine PySem.W.make_core Y (PySem.W.looks_findIn X hi) (fun self => PySem.W.Looks.of_pure (PySem.W.oi_bind self)) (.inr ⟨rfl, rfl⟩) ?_
  have e2 : ((hh.push PySem.W.emptyDict).push (PySem.W.instObj C hh.objs.size)).get? (hh.objs.size + 1) = some (PySem.W.instObj C hh.objs.size) := by
    have := Heap.get?_push_size (hh.push PySem.W.emptyDict) (o := PySem.W.instObj C hh.objs.size) rfl
    rwa [Heap.size_push] at this
  have t1 : PySem.W.Looks (model prog w) ((hh.push PySem.W.emptyDict).push (PySem.W.instObj C hh.objs.size)) (typeOf (.ref (hh.objs.size + 1))) (.ref C) := (PySem.W.Looks.ld e2).andThen .now
  have t2 : PySem.W.Looks (model prog w) ((hh.push PySem.W.emptyDict).push (PySem.W.instObj C hh.objs.size)) (isInstance (.ref (hh.objs.size + 1)) (.type "object")) true := t1.andThen (Y.top.keeps fun b o e => Heap.get?_push_of_some _ (Heap.get?_push_of_some _ e))
  refine codeAny_call_builtin PySem.W.oi_plain PySem.W.entry_oi (@PySem.W.check_slot (model prog w) _ _ _ "object.__init__" "object" "__init__" (.ref (hh.objs.size + 1)) [] [] _ PySem.W.oi_kind PySem.W.oi_split t2 (PySem.W.oi_args (.ref (hh.objs.size + 1))) ?_)
  rw [PySem.W.oi_run]
  exact wpAny_pure (And.intro rfl h)
theorem run_mk0 (M : Mk0 X.K C) (I : Inv X pins σ H s) (h : ∀ x dx, H x = none → H dx = none → dx ≠ x → Q (.ref x) (upd (upd H dx (.own x)) x (.ins C dx []))) :
    wpAny (model X.prog X.w) X.A (call (.ref C) []) (EP X pins σ Q) X.xe s := by
  have hq := h (s.heap.objs.size + 1) s.heap.objs.size (I.hok.fresh (Nat.le_succ _)) (I.hok.fresh (Nat.le_refl _)) (Nat.ne_of_lt (Nat.lt_succ_self _))
  have I2 := Inv.made (C := C) I
  exact wpAny_call (made_plain0 I.kIn M.makes M.init ⟨V.ref (s.heap.objs.size + 1), _, I2, rfl, hq⟩)
/-- C() -/
def tMk0 (C : Addr) : TE := fun _ H Q => ∀ x dx, H x = none → H dx = none → dx ≠ x → Q (.ref x) (upd (upd H dx (.own x)) x (.ins C dx []))
theorem pe_mk0 (M : Mk0 X.K C) (hg : Gl X x) (hm : X.mg x = some (.ref C)) (hdb : (x == ("__debug__" : Str)) = false := by decide) : PE X (.Call (.Name x p) [] [] pos) (tMk0 C) := by
  refine ⟨fun pins s σ H Q I h => ?_⟩
  refine wpAny_Call_Name_kw (ld_glob I hg hm ?_ hdb)
  exact PySem.W.callWith_K0 I.kIn M.kp (run_mk0 M I h)
/-- the methods of one name, by the class's number -/
structure MtT (Pg : Program) (w : World) (K : PySem.W.Frag) (mg : Str → Option Value) (base : Heap) (CX : CXT) (kc : Nat → Option Addr) (m : Str) (N : Nat) (S : Nat → Sp) : Prop where
  at_ : ∀ i C, kc i = some C → Cls K C ∧ ∃ (f : Addr) (fd : FuncData) (ps : List Str), Meth K C m f ∧ FnOk Pg w K mg base CX N f fd ps (S i) ∧ Binds K fd ps []
def tMethV (kc : Nat → Option Addr) (S : Nat → Sp) (E : XK) (ta : TE) (t : TA) : TE := fun σ H Q => ta σ H fun x H1 => ∃ i C a dx, kc i = some C ∧ x = .ref a ∧ H1 a = some (.ins C dx []) ∧ t σ H1 fun vs H2 => S i (x :: vs) H2 Q E
theorem pe_methV {kc : Nat → Option Addr} {S : Nat → Sp} {N : Nat} {pl : Sem Bool} (he : PE X o ta) (T : MtT X.prog X.w X.K X.mg X.base CX kc m N S) (hr : Room N X.A) (hx : Passes CX X E) (ha : PA X (e :: es) t)
    (hst : starEach (e :: es) X.env = (false, eval e X.env) :: starEach es X.env := by rfl) (hpl : (backTo pos (starEach es X.env)).any (·.1) = false := by rfl)
    (ht : eval (.Call (.Attribute o m apos) (e :: es) [] pos) X.env = (do
      let ov ← eval o X.env
      standAt apos.atName
      let (f, first) ← holding [ov] (getMethod ov m pl)
      callWith pos f first (backTo pos (starEach (e :: es) X.env)) (backToKw pos (keywordEach [] X.env))) := by rfl) :
    PE X (.Call (.Attribute o m apos) (e :: es) [] pos) (tMethV kc S E ta t) := by
  refine ⟨fun pins s σ H Q I h => ?_⟩
  refine PySem.W.methodCall_KW (pl := pl) (thn (he.run pins s σ H _ I h) fun u s1 ⟨x, H1, I1, rx, i, C, a, dx, hk, ex, ea, q⟩ => ?_) ht
  subst ex
  obtain rfl : u = Value.ref a := rx
  obtain ⟨c, f, fd, ps, hm, F, hb⟩ := T.at_ i C hk
  refine getmeth_ok I1 ea c hm rfl ?_
  refine PySem.W.callWith_K (first := [.ref a]) (h₀ := X.base) I.ok.mod.kin hm.kp (thn (ha.run pos pins s1 σ H1 _ I1 q) fun us s2 ⟨vs, H2, I2, r, q2⟩ => ⟨I2.kIn, ?_⟩) hst hpl
  exact run_fn (us := .ref a :: us) (vs := .ref a :: vs) F hr hb .nil hx I2 (.cons rfl r) (by rw [List.append_nil]; exact q2)
theorem pe_methV0 {kc : Nat → Option Addr} {S : Nat → Sp} {N : Nat} {pl : Sem Bool} (he : PE X o ta) (T : MtT X.prog X.w X.K X.mg X.base CX kc m N S) (hr : Room N X.A) (hx : Passes CX X E)
    (ht : eval (.Call (.Attribute o m apos) [] [] pos) X.env = (do
      let ov ← eval o X.env
      standAt apos.atName
      let (f, first) ← holding [ov] (getMethod ov m pl)
      callWith pos f first (backTo pos (starEach [] X.env)) (backToKw pos (keywordEach [] X.env))) := by rfl) :
    PE X (.Call (.Attribute o m apos) [] [] pos) (tMethV kc S E ta tNil) := by
  refine ⟨fun pins s σ H Q I h => ?_⟩
  refine PySem.W.methodCall_KW (pl := pl) (thn (he.run pins s σ H _ I h) fun u s1 ⟨x, H1, I1, rx, i, C, a, dx, hk, ex, ea, q⟩ => ?_) ht
  subst ex
  obtain rfl : u = Value.ref a := rx
  obtain ⟨c, f, fd, ps, hm, F, hb⟩ := T.at_ i C hk
  refine getmeth_ok I1 ea c hm rfl ?_
  exact PySem.W.callWith_K0 (first := [.ref a]) I1.kIn hm.kp (run_fn (us := [.ref a]) (vs := [.ref a]) F hr hb .nil hx I1 (.cons rfl .nil) q)
end
end L2
namespace Fx
open PySem PySem.Spec L2
/-- an instance without fields, by its class's number -/
def rK (kc : Nat → Option Addr) : Rp Nat := ⟨fun _ H i v => ∃ C a dx, kc i = some C ∧ v = .ref a ∧ H a = some (.ins C dx []), fun e ⟨C, a, dx, h1, h2, h3⟩ => ⟨C, a, dx, h1, h2, e.get _ _ h3⟩⟩
/-- one number alone -/
def kone (kc : Nat → Option Addr) (i : Nat) : Nat → Option Addr := fun j => if j = i then kc i else none
theorem kone_some {kc : Nat → Option Addr} {i j : Nat} {C : Addr} (h : kone kc i j = some C) : j = i ∧ kc i = some C := by
  unfold kone at h
  by_cases q : j = i
  · rw [if_pos q] at h; exact ⟨q, h⟩
  · rw [if_neg q] at h; cases h
theorem kone_of {kc : Nat → Option Addr} {i : Nat} {C : Addr} (h : kc i = some C) : kone kc i i = some C := (if_pos rfl).trans h
variable [Tbs]
section
variable {ε α π ρ : Type} {D : EnvD ε} {X : Cx} {K : PySem.W.Frag} {R : Str → Hp → Prop} {ma m : Md} {e o : Expr} {es : List Expr} {ta to : TE} {tr : TA} {pos p apos : Pos} {kc : Nat → Option Addr} {i : Nat} {C : Addr} {x mn : Str} {fo : ε → Rs Nat} {P : PD π} {g : ε → Rs π} {rr : Rp ρ}
theorem fe_mk0 (M : Mk0 K C) (hk : kc i = some C) (hg : Gl X x) (hm : X.mg x = some (.ref C)) (hK : X.K = K := by rfl) (hdb : (x == ("__debug__" : Str)) = false := by decide) : FE D X K R m (.Call (.Name x p) [] [] pos) (tMk0 C) (rK kc) (dC i) := by
  cases hK
  refine ⟨rfl, pe_mk0 M hg hm hdb, fun H O F E σ I Q k a dx h1 h2 ne => ?_⟩
  have n1 : (upd H dx (.own a)) a = none := by rw [upd_ne (Ne.symm ne)]; exact h1
  have s : Same H (upd (upd H dx (.own a)) a (.ins C dx [])) := (same_upd h2).trans (same_upd n1)
  refine k _ _ s ⟨C, a, dx, hk, rfl, hidM_new ?_ n1⟩
  exact Dom.same I.dom (same_upd h2)
/-- isinstance(x, y), y a class of one's own or a built-in one -/
theorem fe_isI {sub : Nat → Option Bool} {y : Str} {p2 : Pos} {yv : V} {u : Value} (hy : PE X (.Name y p2) (tC yv)) (only : ClsV yv u) (hE : ∀ i C, kc i = some C → C8.InsC X.K C)
    (hsub : ∀ i C b, sub i = some b → kc i = some C → PySem.W.kitOne X.K (.ref C) u = some b) (hg : Gl X "isinstance") (hm : X.mg "isinstance" = none) (ha : FE D X K R ma e ta (rK kc) fo)
    (he : starEach (e :: [.Name y p2]) X.env = (false, eval e X.env) :: starEach [.Name y p2] X.env := by rfl) (he2 : starEach [.Name y p2] X.env = (false, eval (.Name y p2) X.env) :: starEach [] X.env := by rfl) (hpl : (backTo pos (starEach [.Name y p2] X.env)).any (·.1) = false := by rfl) :
    FE D X K R m (.Call (.Name "isinstance" p) [e, .Name y p2] [] pos) (tCB (rIsi K) (tCons ta (tCons (tC yv) tNil))) rBool (d1 sub fo) := by
  cases ha.hK
  refine ⟨rfl, pe_callB call_isi hg hm PyProof.Rows.boot_isinstance (pa_cons ha.pe (pa_cons hy pa_nil he2) he) (by decide) (by decide) he hpl, fun H O F E σ I Q kk => ?_⟩
  refine ha.sem H O F E σ I _ ((good_bind kk).mono (fun i _ kk v H1 e1 r1 => ?_) fun c kk => kk)
  obtain ⟨C, a, dx, h1, rfl, h3⟩ := r1
  have c := hE i C h1
  cases q : sub i with
  | none =>
    have kk : Good (ofO (sub i)) _ _ := kk
    rw [q] at kk
    exact kk.elim
  | some b =>
    have kk : Good (ofO (sub i)) _ _ := kk
    rw [q] at kk
    exact ⟨.ref a, yv, .ref C, u, b, rfl, only, .base (.ins (hidM_low.get _ _ h3) c.cl c.ha c.hn c.htk c.hm), hsub i C b q h1, kk _ H1 e1 rfl⟩
/-- o.m(e, ..), the method found by o's class -/
def dMeth (M : Nat → Nat × π → Rs ρ) (fo : ε → Rs Nat) (g : ε → Rs π) : ε → Rs ρ := fun E => (fo E).bind fun i => (g E).bind fun a => nox (M i (i, a))
variable {CX : CXT} {XQ : XK → Str → Hp → Prop} {EX : XK} {N : Nat} {M : Nat → Nat × π → Rs ρ}
theorem fe_meth {pl : Sem Bool} (T : MtT X.prog X.w K X.mg X.base CX kc mn N fun i => spM K XQ (pC true (rK (kone kc i)) P) (retS rr) (M i)) (hr : Room N X.A) (hx : Passes CX X EX) (ho : FE D X K R mS o to (rK kc) fo) (ha : FA D X K R (e :: es) tr P g)
    (hst : starEach (e :: es) X.env = (false, eval e X.env) :: starEach es X.env := by rfl) (hpl : (backTo pos (starEach es X.env)).any (·.1) = false := by rfl)
    (ht : eval (.Call (.Attribute o mn apos) (e :: es) [] pos) X.env = (do
      let ov ← eval o X.env
      standAt apos.atName
      let (f, first) ← holding [ov] (getMethod ov mn pl)
      callWith pos f first (backTo pos (starEach (e :: es) X.env)) (backToKw pos (keywordEach [] X.env))) := by rfl) :
    FE D X K R mS (.Call (.Attribute o mn apos) (e :: es) [] pos) (tMethV kc (fun i => spM K XQ (pC true (rK (kone kc i)) P) (retS rr) (M i)) EX to tr) rr (dMeth M fo g) := by
  cases ho.hK
  exact ⟨rfl, pe_methV ho.pe T hr hx ha.pa hst hpl ht, fun H O F E σ I Q kk =>
  ho.sem H O F E σ I _ ((good_bind kk).mono (fun i _ kk v H1 e1 r1 => by
    obtain ⟨C, a, dx, h1, rfl, h3⟩ := r1
    refine ⟨i, C, a, dx, h1, rfl, hidM_low.get _ _ h3, ha.sem H1 O F E σ (I.same e1) _ ((good_bind kk).mono (fun args _ kk vs H2 e2 r2 => ?_) fun c kk H2 e2 => kk H2 (e1.trans e2))⟩
    refine ⟨O ++ F, (i, args), ⟨.ref a, vs, rfl, ⟨C, a, dx, kone_of h1, rfl, (hid_sm e2).get _ _ h3⟩, r2⟩, dom_nil (Dom.same I.dom (e1.trans e2)), (I.same (e1.trans e2)).tab, (good_nox (R' := fun _ => False) kk).mono (fun d _ kk v H3 F3 e3 _ _ _ r3 => kk v H3 ((e1.trans e2).trans e3) r3.2) fun c kk H3 e3 => kk.elim⟩) fun _ kk => kk)⟩
theorem fe_meth0 {pl : Sem Bool} {M : Nat → Nat × Unit → Rs ρ} (T : MtT X.prog X.w K X.mg X.base CX kc mn N fun i => spM K XQ (pC true (rK (kone kc i)) pNil) (retS rr) (M i)) (hr : Room N X.A) (hx : Passes CX X EX) (ho : FE D X K R mS o to (rK kc) fo)
    (ht : eval (.Call (.Attribute o mn apos) [] [] pos) X.env = (do
      let ov ← eval o X.env
      standAt apos.atName
      let (f, first) ← holding [ov] (getMethod ov mn pl)
      callWith pos f first (backTo pos (starEach [] X.env)) (backToKw pos (keywordEach [] X.env))) := by rfl) :
    FE D X K R mS (.Call (.Attribute o mn apos) [] [] pos) (tMethV kc (fun i => spM K XQ (pC true (rK (kone kc i)) pNil) (retS rr) (M i)) EX to tNil) rr (dMeth M fo (dC ())) := by
  cases ho.hK
  exact ⟨rfl, pe_methV0 ho.pe T hr hx ht, fun H O F E σ I Q kk =>
  ho.sem H O F E σ I _ ((good_bind kk).mono (fun i _ kk v H1 e1 r1 => by
    obtain ⟨C, a, dx, h1, rfl, h3⟩ := r1
    refine ⟨i, C, a, dx, h1, rfl, hidM_low.get _ _ h3, ?_⟩
    refine ⟨O ++ F, (i, ()), ⟨.ref a, [], rfl, ⟨C, a, dx, kone_of h1, rfl, h3⟩, rfl⟩, dom_nil (Dom.same I.dom e1), (I.same e1).tab, (good_nox (R' := fun _ => False) kk).mono (fun d _ kk v H3 F3 e3 _ _ _ r3 => kk v H3 (e1.trans e3) r3.2) fun c kk H3 e3 => kk.elim⟩) fun _ kk => kk)⟩
theorem fe_methS {pl : Sem Bool} {M1 : Nat × π → Rs ρ} (T : MtT X.prog X.w K X.mg X.base CX kc mn N fun _ => spM K XQ (pC true (rK kc) P) (retS rr) M1) (hr : Room N X.A) (hx : Passes CX X EX) (ho : FE D X K R mS o to (rK kc) fo) (ha : FA D X K R (e :: es) tr P g)
    (hst : starEach (e :: es) X.env = (false, eval e X.env) :: starEach es X.env := by rfl) (hpl : (backTo pos (starEach es X.env)).any (·.1) = false := by rfl)
    (ht : eval (.Call (.Attribute o mn apos) (e :: es) [] pos) X.env = (do
      let ov ← eval o X.env
      standAt apos.atName
      let (f, first) ← holding [ov] (getMethod ov mn pl)
      callWith pos f first (backTo pos (starEach (e :: es) X.env)) (backToKw pos (keywordEach [] X.env))) := by rfl) :
    FE D X K R mS (.Call (.Attribute o mn apos) (e :: es) [] pos) (tMethV kc (fun _ => spM K XQ (pC true (rK kc) P) (retS rr) M1) EX to tr) rr (dMeth (fun _ => M1) fo g) := by
  cases ho.hK
  exact ⟨rfl, pe_methV ho.pe T hr hx ha.pa hst hpl ht, fun H O F E σ I Q kk =>
  ho.sem H O F E σ I _ ((good_bind kk).mono (fun i _ kk v H1 e1 r1 => by
    obtain ⟨C, a, dx, h1, rfl, h3⟩ := r1
    refine ⟨i, C, a, dx, h1, rfl, hidM_low.get _ _ h3, ha.sem H1 O F E σ (I.same e1) _ ((good_bind kk).mono (fun args _ kk vs H2 e2 r2 => ?_) fun c kk H2 e2 => kk H2 (e1.trans e2))⟩
    refine ⟨O ++ F, (i, args), ⟨.ref a, vs, rfl, ⟨C, a, dx, h1, rfl, (hid_sm e2).get _ _ h3⟩, r2⟩, dom_nil (Dom.same I.dom (e1.trans e2)), (I.same (e1.trans e2)).tab, (good_nox (R' := fun _ => False) kk).mono (fun d _ kk v H3 F3 e3 _ _ _ r3 => kk v H3 ((e1.trans e2).trans e3) r3.2) fun c kk H3 e3 => kk.elim⟩) fun _ kk => kk)⟩
theorem fe_methS0 {pl : Sem Bool} {M1 : Nat × Unit → Rs ρ} (T : MtT X.prog X.w K X.mg X.base CX kc mn N fun _ => spM K XQ (pC true (rK kc) pNil) (retS rr) M1) (hr : Room N X.A) (hx : Passes CX X EX) (ho : FE D X K R mS o to (rK kc) fo)
    (ht : eval (.Call (.Attribute o mn apos) [] [] pos) X.env = (do
      let ov ← eval o X.env
      standAt apos.atName
      let (f, first) ← holding [ov] (getMethod ov mn pl)
      callWith pos f first (backTo pos (starEach [] X.env)) (backToKw pos (keywordEach [] X.env))) := by rfl) :
    FE D X K R mS (.Call (.Attribute o mn apos) [] [] pos) (tMethV kc (fun _ => spM K XQ (pC true (rK kc) pNil) (retS rr) M1) EX to tNil) rr (dMeth (fun _ => M1) fo (dC ())) := by
  cases ho.hK
  exact ⟨rfl, pe_methV0 ho.pe T hr hx ht, fun H O F E σ I Q kk =>
  ho.sem H O F E σ I _ ((good_bind kk).mono (fun i _ kk v H1 e1 r1 => by
    obtain ⟨C, a, dx, h1, rfl, h3⟩ := r1
    refine ⟨i, C, a, dx, h1, rfl, hidM_low.get _ _ h3, ?_⟩
    refine ⟨O ++ F, (i, ()), ⟨.ref a, [], rfl, ⟨C, a, dx, h1, rfl, h3⟩, rfl⟩, dom_nil (Dom.same I.dom e1), (I.same e1).tab, (good_nox (R' := fun _ => False) kk).mono (fun d _ kk v H3 F3 e3 _ _ _ r3 => kk v H3 (e1.trans e3) r3.2) fun c kk H3 e3 => kk.elim⟩) fun _ kk => kk)⟩
end
end Fx

/-! Fx46: texts compared as data, in great letters, their place in a list; an item taken out of an owned list. -/
namespace Fx
open PySem PySem.Spec L2
variable [Tbs]
section
variable {ε α β γ ρ : Type} {D : EnvD ε} {X : Cx} {K : PySem.W.Frag} {R : Str → Hp → Prop} {rr : RetD ρ} {m ma mb : Md} {te ta tb : TE} {e a b o : Expr} {r : Rp α} {to : TE} {pos : Pos}
noncomputable def upperF : Str → Option Str := fun z => cIf (z.length ≤ 5592405) (some (Txt.upper z)) none
theorem fe_upper {fo : ε → Rs Str} {apos : Pos} (ho : FE D X K R ma o to rStr fo) (hbase : attributeBase o "upper" X.env (eval o X.env) = eval o X.env := by rfl) (hline : (apos.endLine == pos.line) = true := by rfl) :
    FE D X K R m (.Call (.Attribute o "upper" apos) [] [] pos) (tM0 (fun x xs H Q => ∃ a, x = .str a ∧ xs = [] ∧ a.length ≤ 5592405 ∧ Q (.str (Txt.upper a)) H) to) rStr (d1 upperF fo) := by
  cases ho.hK
  refine ⟨rfl, pe_upper ho.pe hbase hline, fun H O F E σ I Q k => ho.sem H O F E σ I _ ((good_bind k).mono (fun x _ k v H1 e1 r1 => ?_) fun c k => k)⟩
  have r1 : v = .str x := r1
  subst r1
  have k : Good (ofO (upperF x)) _ _ := k
  unfold upperF at k
  by_cases c : x.length ≤ 5592405
  · rw [cIf_pos c] at k
    exact ⟨⟨x, rfl⟩, x, rfl, rfl, c, k _ H1 e1 rfl⟩
  · rw [cIf_neg c] at k; exact k.elim
def idxS : List Str → Str → Option Int := fun xs x => if x ∈ xs then some ((xs.idxOf x : Nat) : Int) else none
theorem flat_strs : ∀ xs : List Str, (xs.map V.str).all flatV = true
  | [] => rfl
  | x :: xs => by rw [List.map_cons, List.all_cons, flat_strs xs]; rfl
theorem inV_strs (x : Str) : ∀ xs : List Str, inV (.str x) (xs.map V.str) = decide (x ∈ xs)
  | [] => rfl
  | y :: ys => by
    have ih := inV_strs x ys
    unfold inV at ih ⊢
    rw [List.map_cons, List.any_cons, ih]
    show ((y == x) || _) = _
    by_cases h : y = x
    · simp [h]
    · simp [h, Ne.symm h]
theorem b_inLS : Bin K ma mb m (rIn K false) rStr (rList rStr) rBool inF := fun H O F x y z v w d h1 h2 e Q k => by
  cases e
  cases h1
  obtain ⟨p, vs, rfl, hp, hl, hv⟩ := h2
  have ev := paired_str hv
  exact ⟨p, vs, rfl, .inl (.inl (.inl (hid_le.get _ _ hp))), rfl, by rw [ev]; exact flat_strs y, k _ H (Same.refl H) (by rw [ev, inV_strs]; rfl)⟩
theorem b_notInLS : Bin K ma mb m (rIn K true) rStr (rList rStr) rBool notInF := fun H O F x y z v w d h1 h2 e Q k => by
  cases e
  cases h1
  obtain ⟨p, vs, rfl, hp, hl, hv⟩ := h2
  have ev := paired_str hv
  exact ⟨p, vs, rfl, .inl (.inl (.inl (hid_le.get _ _ hp))), rfl, by rw [ev]; exact flat_strs y, k _ H (Same.refl H) (by rw [ev, inV_strs]; rfl)⟩
theorem fe_indexS {f : ε → Rs (List Str)} {g : ε → Rs Str} {apos cpos : Pos} (ha : FE D X K R ma a ta (rList rStr) f) (hb : FE D X K R mb b tb rStr g)
    (hbase : attributeBase a "index" X.env (eval a X.env) = eval a X.env := by rfl)
    (hfew : ((backTo cpos (starEach (b :: []) X.env)).all (fun x => !x.1) && (backToKw cpos (keywordEach [] X.env)).all (fun x => x.1.isSome)
      && decide ((b :: []).length + ([] : List Keyword).length + (if ([] : List Keyword).isEmpty then 0 else 1) < 30)) = true := by rfl)
    (hline : (apos.endLine == cpos.line) = true := by rfl) (hs : starEach (b :: []) X.env = (false, eval b X.env) :: starEach [] X.env := by rfl) (hplain : (backTo cpos (starEach [] X.env)).any (·.1) = false := by rfl) :
    FE D X K R m (.Call (.Attribute a "index" apos) [b] [] cpos) (tBM K "list" (rIndex K) ta (tCons tb tNil)) rInt (d2 idxS f g) := by
  cases ha.hK
  refine ⟨rfl, pe_bm PySem.F.plainAttrs_list PySem.F.slot_list_index PySem.F.type_list_index mt_index ha.pe (pa_cons hb.pe pa_nil hs) hbase hfew hline hs hplain, fun H O F E σ I Q k => ?_⟩
  refine ha.sem H O F E σ I _ ((good_bind k).mono (fun xs _ k v H1 e1 r1 => ?_) fun c k => k)
  obtain ⟨p, vs, rfl, hp, hl, hv⟩ := r1
  have hp1 := hid_le.get _ _ hp
  refine ⟨.inl ⟨rfl, _, .inl (.inl hp1)⟩, hb.sem H1 O F E σ (I.same e1) _ ((good_bind k).mono (fun y _ k w H2 e2 r2 => ?_) fun c k H2 e2 => k H2 (e1.trans e2))⟩
  have ev := paired_str hv
  have ew : w = .str y := r2
  subst ew
  show rIndex X.K (.ref p) [.str y] H2 Q
  by_cases hm : y ∈ xs
  · have k : Good (ofO (idxS xs y)) _ _ := k
    unfold idxS at k
    rw [if_pos hm] at k
    have hlt : xs.idxOf y < xs.length := List.idxOf_lt_length_of_mem hm
    refine ⟨p, vs, .str y, xs.idxOf y, .str y, rfl, rfl, .inl (.inl (e2.get _ _ hp1)), rfl, by rw [ev]; exact flat_strs xs, ?_, beq_self_eq_true y, fun j z hj hz => ?_, k _ H2 (e1.trans e2) rfl⟩
    · rw [ev, List.getElem?_map, List.getElem?_eq_getElem hlt, List.getElem_idxOf]
      rfl
    · rw [ev, List.getElem?_map, List.getElem?_eq_getElem (by omega)] at hz
      cases hz
      have := List.not_of_lt_findIdx (p := (· == y)) (xs := xs) (i := j) hj
      show (xs[j] == y) = false
      simpa using this
  · have k : Good (ofO (idxS xs y)) _ _ := k
    unfold idxS at k
    rw [if_neg hm] at k
    exact k.elim
theorem paired_eraseIdx {F : α → V → Prop} : ∀ {xs : List α} {vs : List V} (j : Nat), Paired F xs vs → Paired F (xs.eraseIdx j) (vs.eraseIdx j)
  | _, _, _, .nil => .nil
  | _, _, 0, .cons _ t => t
  | _, _, j + 1, .cons h t => .cons h (paired_eraseIdx j t)
/-- x.pop(i), what it gives is dropped -/
def dPopI (gt : ε → Option (List α)) (p : ε → Option (List α) → ε) (fi : ε → Rs Int) : ε → Rs (Fl ε ρ) := fun E => (ofO (gt E)).bind fun xs => (fi E).bind fun k => (ofO (ixN xs.length k)).bind fun j => .ok (.nx (p E (some (xs.eraseIdx j))))
theorem fs_popI {i : Nat} {x : Str} {gt : ε → Option (List α)} {p : ε → Option (List α) → ε} {f : ε → Rs Int} {px : Pos} {apos cpos : Pos} {bo : Bool} (L : OLb bo D i r gt p) (he : FE D X K R mS e te rInt f) (hi : X.N[i]? = some x := by rfl)
    (hv : Vis X.env.scope x := by first | exact Or.inl rfl | exact Or.inr (Or.inl rfl) | exact Or.inr (Or.inr rfl)) (hd : (x == ("__debug__" : Str)) = false := by decide) (hcd : (x == ("__classdict__" : Str)) = false := by decide)
    (hbase : attributeBase (.Name x px) "pop" X.env (eval (.Name x px) X.env) = eval (.Name x px) X.env := by rfl)
    (hfew : ((backTo cpos (starEach (e :: []) X.env)).all (fun x => !x.1) && (backToKw cpos (keywordEach [] X.env)).all (fun x => x.1.isSome)
      && decide ((e :: []).length + ([] : List Keyword).length + (if ([] : List Keyword).isEmpty then 0 else 1) < 30)) = true := by rfl)
    (hline : (apos.endLine == cpos.line) = true := by rfl) (hs : starEach (e :: []) X.env = (false, eval e X.env) :: starEach [] X.env := by rfl) (hplain : (backTo cpos (starEach [] X.env)).any (·.1) = false := by rfl)
    (hsw : swapsWith (.Call (.Attribute (.Name x px) "pop" apos) [e] [] cpos) none pos.line X.env = pure false := by rfl) :
    FS D X K R rr (.Expr (.Call (.Attribute (.Name x px) "pop" apos) [e] [] cpos) pos) (tDrop (tBM K "list" rPopAt (tVar i) (tCons te tNil))) (dPopI (ρ := ρ) gt p f) := by
  cases he.hK
  exact ⟨rfl, ps_expr (pe_bm PySem.F.plainAttrs_list PySem.F.slot_list_pop PySem.F.type_list_pop mt_popAt (pe_var hi hv hd hcd) (pa_cons he.pe pa_nil hs) hbase hfew hline hs hplain) hsw, fun H O F E σ I Dn k => by
    have k := good_bind k
    cases eg : gt E with
    | none => rw [eg] at k; exact k.elim
    | some xs =>
      rw [eg] at k
      have k := good_bind (show Good ((f E).bind _) _ _ from k)
      obtain ⟨q0, vs0, z0, z1, _⟩ := L.lst I eg
      refine ⟨.ref q0, z0, .inl ⟨rfl, _, .inl (.inl z1)⟩, he.sem H O F E σ I _ (k.mono (fun kk _ k v H1 e1 r1 => ?_) fun c k => exS k)⟩
      have I1 := I.same e1
      obtain ⟨q, vs, y0, y1, y2, y3, y4, y5⟩ := L.lst I1 eg
      rw [z0] at y0
      cases y0
      cases ej : ixN xs.length kk with
      | none => rw [ej] at k; exact k.elim
      | some j =>
        rw [ej] at k
        obtain ⟨w1, w2, w3, w4⟩ := ixN_seq ej
        have el := Paired.len y4
        have n63 := line63
        have hj : j < vs.length := by omega
        rw [el] at w1
        obtain ⟨s2, I2⟩ := y5 (xs.eraseIdx j) (vs.eraseIdx j) (Nat.le_trans (List.length_eraseIdx_le _ _) y2) (paired_eraseIdx j y4)
        exact ⟨q0, vs, kk, j, vs[j], rfl, by rw [show v = .int kk from r1], y1, by omega, by omega, w1, List.getElem?_eq_getElem hj, k _ _ F ((Step.same e1).trans s2) I2⟩⟩
theorem fn_call0 {CX : CXT} {k : Nat} {fa : Addr} {fd : FuncData} {XQ : XK → Str → Hp → Prop} {EX : XK} {x : Str} {p : Pos} {mf : Unit → Rs ρ} {oo : Ro ρ} (F : FnOk X.prog X.w K X.mg X.base CX k fa fd [] (spM K XQ pNil (retO oo) mf)) (hr : Room k X.A) (hg : Gl X x) (hm : X.mg x = some (.ref fa)) (hk : PySem.W.keepIn K (.ref fa) = true) (hb : Binds K fd [] []) (hx : Passes CX X EX)
    (hdb : (x == ("__debug__" : Str)) = false := by decide) (hK : X.K = K := by rfl) : FN D X K R (.Call (.Name x p) [] [] pos) (tCall (spM K XQ pNil (retO oo) mf) [] EX tNil) oo (fun _ => nox (mf ())) := by
  cases hK
  exact ⟨rfl, pe_call0 F hr hg hm hk hb .nil hx hdb, fun H O F E σ I Q kk => by
  refine ⟨O ++ F, (), rfl, dom_nil I.dom, I.tab, (good_nox (R' := fun _ => False) kk).mono (fun d _ kk v H2 F2 e2 n2 nd2 d2 r2 => kk v H2 F2 e2 n2 nd2 d2 r2) fun c kk => kk.elim⟩⟩
end
end Fx

/-! Fx47: try: y = f(..) / except C: return b / else: .. -/
namespace Fx
open PySem PySem.Spec L2
variable [Tbs]
section
variable {ε ρ α β π : Type} {D : EnvD ε} {X : Cx} {K : PySem.W.Frag} {R : Str → Hp → Prop}
def dTryE (sub : Str → Option Bool) (put : ε → Option β → ε) (g : ε → Rs π) (mf : π → Rs β) (b0 : Bool) (el : ε → Rs (Fl ε Bool)) : ε → Rs (Fl ε Bool) := fun E => match g E with
  | .ok a => match mf a with
    | .ok v => el (put E (some v))
    | .exc c => match sub c with
      | some true => .ok (.rt b0)
      | some false => .exc c
      | none => .bad
    | .bad => .bad
  | _ => .bad
theorem fs_tryElse {ca : Str → Option Addr} {sub : Str → Option Bool} {Wout : WX} {xc y xf : Str} {cv : Value} {j k : Nat} {rb : Rp β} {gt : ε → Option β} {pt : ε → Option β → ε} {np p1 p2 p3 p4 p5 p6 pos pos' : Pos} {z0 : Nat} {b0 : Bool}
    {fa : Addr} {fd : FuncData} {ps : List Str} {P : PD π} {mf : π → Rs β} {e : Expr} {es : List Expr} {tr : TA} {g : ε → Rs π} {orelse : List Stmt} {u : TS} {el : ε → Rs (Fl ε Bool)}
    (Lj : Ln D D j (sS true rb) (sS true rb) gt pt) (hs : X.stack = X.env :: X.outer) (hf : X.env.frame = some X.env.locals) (hN : X.N.Nodup) (hj : X.N[j]? = some y)
    (hly : Loc X.env.scope y) (hfy : X.fn y = true ∨ X.env.scope.names.lookup y = some .local)
    (hc : Names X xc cv) (tk : Takes X Wout) (hE : ∀ c C b, sub c = some b → ca c = some C → PySem.W.exmOne K (.ref C) cv = some b) (hR : ∀ c C σ H, sub c = some false → ca c = some C → R c H → Wout (.ref C) none σ H) (hca : ∀ c b, sub c = some b → ∃ C, ca c = some C)
    (F : FnOk X.prog X.w K X.mg X.base (L2.CX X.prog X.w) k fa fd ps (spM K (xk ca) P (retS rb) mf)) (hr : Room k X.A) (hg : Gl X xf) (hm : X.mg xf = some (.ref fa)) (hk : PySem.W.keepIn K (.ref fa) = true) (hb : Binds K fd ps [])
    (ha : ∀ pl xe, FA D (X.tr pl xe) K R0 (e :: es) tr P g) (ho : FSs D X K R (retS rBool) orelse u el) (hK : X.K = K := by rfl) (hdb : (xf == ("__debug__" : Str)) = false := by decide) (he : starEach (e :: es) X.env = (false, eval e X.env) :: starEach es X.env := by rfl) (hpl : (backTo p2 (starEach es X.env)).any (·.1) = false := by rfl)
    (hsw : swapsWith (.Call (.Name xf p1) (e :: es) [] p2) (some (.Name y p4)) p3.line X.env = pure false := by rfl) :
    FS D X K R (retS rBool) (.Try [.Assign [.Name y p4] (.Call (.Name xf p1) (e :: es) [] p2) p3] [.ExceptHandler (some (.Name xc np)) none [.Return (some (.Constant (.bool b0) z0 p5)) p6] pos'] orelse [] pos)
      (fun Dn σ H => tAsg (tCallS (spM K (xk ca) P (retS rb) mf) (WE (wOnly K cv (fun _ _ _ => tRet (tC (.bl b0))) Wout Dn)) tr) (gName j) { Dn with nx := u Dn } σ H) (dTryE sub pt g mf b0 el) := by
  subst hK
  refine ⟨rfl, ps_try_onlyE (tb := fun W => tAsg (tCallS (spM X.K (xk ca) P (retS rb) mf) (WE W) tr) (gName j)) (ts := fun _ _ _ => tRet (tC (.bl b0))) ho.ps hs hf hc tk
    (fun W pl xe tkW po => pss_one (ps_set (X := X.tr pl xe) hN hj hly (pe_callS (X := X.tr pl xe) F hr hg hm hk hb (fun σ => passAt tkW σ) (ha pl xe).pa hdb he hpl) hsw hfy))
    (fun a oe cls d pl _ _ => pss_one (ps_ret (X := X.suite a ((a, oe) :: pl)) pe_bl)), fun H O F1 E σ I Dn kk => ?_⟩
  show tr σ H _
  unfold dTryE at kk
  cases eg : g E with
  | exc c => rw [eg] at kk; exact kk.elim
  | bad => rw [eg] at kk; exact kk.elim
  | ok args =>
    rw [eg] at kk
    dsimp only at kk
    refine (ha [] fun _ _ => False).sem H O F1 E σ I _ ?_
    rw [eg]
    intro vs H1 e1 r1
    refine ⟨O ++ F1, args, r1, dom_nil (Dom.same I.dom e1), (I.same e1).tab, ?_⟩
    cases em : mf args with
    | bad => rw [em] at kk; exact kk.elim
    | ok d =>
      rw [em] at kk
      intro v H2 F2 e2 _ _ _ r2
      have s2 := e1.trans e2
      obtain ⟨F3, st3, I3⟩ := RelF.own Lj I s2 (F' := []) (fun q hq => nomatch hq) List.nodup_nil (fun q hq => nomatch hq) (x := some d) (w := some v) fun F3 hF3 => ⟨rfl, fun x ex => ⟨v, rfl, by
        cases ex
        refine rb.mono (hid_sub fun q hq => ?_) r2.2
        rcases List.mem_append.mp hq with z | z
        · exact List.mem_append_left _ z
        · rcases hF3 q z with w | w
          · exact List.mem_append_right _ w
          · cases w⟩⟩
      exact ho.sem H2 O F3 _ _ I3 Dn (Good.mono (show Good (el (pt E (some d))) _ _ from kk) (fun fl _ q => q.step st3) fun c q H4 k4 => q H4 (st3.stab k4))
    | exc c =>
      rw [em] at kk
      dsimp only at kk
      intro H2 e2
      cases esub : sub c with
      | none => rw [esub] at kk; exact kk.elim
      | some b =>
        rw [esub] at kk
        obtain ⟨C, hC⟩ := hca c b esub
        refine ⟨C, hC, b, hE c C b esub hC, fun eb => ?_, fun eb => ?_⟩
        · subst eb
          intro a na
          have s2 := e1.trans e2
          exact kk (.bl b0) H2 [] (Stab.of_same s2) (fun p hp => by cases hp) List.nodup_nil (fun p hp => by cases hp) ⟨rfl, rfl⟩
        · subst eb
          exact hR c C σ H2 esub hC (kk H2 (Stab.of_same (e1.trans e2)))
end
section
variable {m ma mb : Md} {K : PySem.W.Frag}
abbrev rII : Rp (Int × Int × Unit) := rTup (pC true rInt (pC true rInt pNil))
def inT2 : Int → Int × Int × Unit → Option Bool := fun x t => some (decide (x = t.1 ∨ x = t.2.1))
def notInT2 : Int → Int × Int × Unit → Option Bool := fun x t => some (!decide (x = t.1 ∨ x = t.2.1))
theorem inV_two (x a b : Int) : inV (.int x) [.int a, .int b] = decide (x = a ∨ x = b) := by
  have := inV_ints x [a, b]
  rw [show ([a, b].map V.int) = [V.int a, V.int b] from rfl] at this
  rw [this]
  exact decide_eq_decide.mpr (by simp)
theorem b_inT2 : Bin K ma mb m (rIn K false) rInt rII rBool inT2 := fun H O F x y z v w d h1 h2 e Q k => by
  cases e
  cases h1
  obtain ⟨p, vs, rfl, hp, v1, us, rfl, r1, v2, us2, rfl, r2, r3⟩ := h2
  cases r1
  cases r2
  cases r3
  exact ⟨p, _, rfl, .inr (.inl (.inl (hidM_low.get _ _ hp))), rfl, rfl, k _ H (Same.refl H) (by rw [inV_two]; rfl)⟩
theorem b_notInT2 : Bin K ma mb m (rIn K true) rInt rII rBool notInT2 := fun H O F x y z v w d h1 h2 e Q k => by
  cases e
  cases h1
  obtain ⟨p, vs, rfl, hp, v1, us, rfl, r1, v2, us2, rfl, r2, r3⟩ := h2
  cases r1
  cases r2
  cases r3
  exact ⟨p, _, rfl, .inr (.inl (.inl (hidM_low.get _ _ hp))), rfl, rfl, k _ H (Same.refl H) (by rw [inV_two]; rfl)⟩
end
end Fx

namespace Gen
open PySem PySem.Spec L2 Fx
def sub_NoKind : Str → Option Bool := fun c => if c = "NoKind" then some true else none
def sub_FloorError : Str → Option Bool := fun c => if c = "NoKind" then some true else none
def sub_NoRoom : Str → Option Bool := fun c => if c = "NoKind" then some false else none
def sub_NoOrder : Str → Option Bool := fun c => if c = "NoKind" then some false else none
def sub_NoText : Str → Option Bool := fun c => if c = "NoKind" then some false else none
def sub_NoFloor : Str → Option Bool := fun c => if c = "NoKind" then some false else none
def sub_NoRow : Str → Option Bool := fun c => if c = "NoKind" then some false else none
def sub_NoName : Str → Option Bool := fun c => if c = "NoKind" then some false else none
def sub_ValueError : Str → Option Bool := fun c => if c = "NoKind" then some true else none
def subk_Alike : Nat → Option Bool := fun i => ([true, false, false, false, false, false] : List Bool)[i]?
def subk_Floor : Nat → Option Bool := fun i => ([true, true, true, true, true, true] : List Bool)[i]?
def subk_Open : Nat → Option Bool := fun i => ([false, true, false, false, false, false] : List Bool)[i]?
def subk_Pairs : Nat → Option Bool := fun i => ([false, false, false, false, false, true] : List Bool)[i]?
def subk_Tails : Nat → Option Bool := fun i => ([false, false, true, false, false, false] : List Bool)[i]?
def subk_Tree : Nat → Option Bool := fun i => ([false, false, false, false, true, false] : List Bool)[i]?
def subk_Turns : Nat → Option Bool := fun i => ([false, false, false, false, true, true] : List Bool)[i]?
def subk_Windows : Nat → Option Bool := fun i => ([false, false, false, true, false, false] : List Bool)[i]?
/-! ### the plain functions -/
-- Alike_word: self:S
abbrev E_Alike_word : Type := (Option Nat × Unit)
noncomputable def b_Alike_word : (Option Nat × Unit) → Rs (Fl (Option Nat × Unit) Str) := (dRet (dC ("alike" : Str)))
noncomputable def m_Alike_word : (Nat × Unit) → Rs Str := fun a => runB b_Alike_word (some a.1, ())
-- Open_word: self:S
abbrev E_Open_word : Type := (Option Nat × Unit)
noncomputable def b_Open_word : (Option Nat × Unit) → Rs (Fl (Option Nat × Unit) Str) := (dRet (dC ("open" : Str)))
noncomputable def m_Open_word : (Nat × Unit) → Rs Str := fun a => runB b_Open_word (some a.1, ())
-- Pairs_word: self:S
abbrev E_Pairs_word : Type := (Option Nat × Unit)
noncomputable def b_Pairs_word : (Option Nat × Unit) → Rs (Fl (Option Nat × Unit) Str) := (dRet (dC ("pairs" : Str)))
noncomputable def m_Pairs_word : (Nat × Unit) → Rs Str := fun a => runB b_Pairs_word (some a.1, ())
-- Tails_word: self:S
abbrev E_Tails_word : Type := (Option Nat × Unit)
noncomputable def b_Tails_word : (Option Nat × Unit) → Rs (Fl (Option Nat × Unit) Str) := (dRet (dC ("tails" : Str)))
noncomputable def m_Tails_word : (Nat × Unit) → Rs Str := fun a => runB b_Tails_word (some a.1, ())
-- Tree_word: self:S
abbrev E_Tree_word : Type := (Option Nat × Unit)
noncomputable def b_Tree_word : (Option Nat × Unit) → Rs (Fl (Option Nat × Unit) Str) := (dRet (dC ("tree" : Str)))
noncomputable def m_Tree_word : (Nat × Unit) → Rs Str := fun a => runB b_Tree_word (some a.1, ())
-- Windows_word: self:S
abbrev E_Windows_word : Type := (Option Nat × Unit)
noncomputable def b_Windows_word : (Option Nat × Unit) → Rs (Fl (Option Nat × Unit) Str) := (dRet (dC ("windows" : Str)))
noncomputable def m_Windows_word : (Nat × Unit) → Rs Str := fun a => runB b_Windows_word (some a.1, ())
-- kinds: 
abbrev E_kinds : Type := (Unit)
noncomputable def b_kinds : (Unit) → Rs (Fl (Unit) (List Nat)) := (dRet (dCons (dC 0) (dCons (dC 1) (dCons (dC 2) (dCons (dC 3) (dCons (dC 4) (dCons (dC 5) (dC []))))))))
noncomputable def m_kinds : (Unit) → Rs (List Nat) := fun a => runB b_kinds (())
noncomputable def Mt_word : Nat → Nat × Unit → Rs Str := fun i => match i with
  | 0 => m_Alike_word
  | 1 => m_Open_word
  | 2 => m_Tails_word
  | 3 => m_Windows_word
  | 4 => m_Tree_word
  | 5 => m_Pairs_word
  | _ => fun _ => .bad
-- kind_of: word:S kind:S
abbrev E_kind_of : Type := (Option Str × Option Nat × Unit)
noncomputable def c_kind_of_1 : (Option Str × Option Nat × Unit) → Rs (Fl (Option Str × Option Nat × Unit) Nat) := (dFor (fun _ => nox (m_kinds ())) (stN (fun E x => (E.1, x, E.2.2))) (dIte (d2 eqF (dMeth Mt_word (dV (fun E => E.2.1)) (dC ())) (dV (fun E => E.1))) (dRet (dV (fun E => E.2.1))) dNx))
noncomputable def t_kind_of_1 : (Option Str × Option Nat × Unit) → Rs (Fl (Option Str × Option Nat × Unit) Nat) := (fun _ => .exc "NoKind")
noncomputable def b_kind_of : (Option Str × Option Nat × Unit) → Rs (Fl (Option Str × Option Nat × Unit) Nat) := (dSeq c_kind_of_1
  t_kind_of_1)
noncomputable def m_kind_of : (Str × Unit) → Rs Nat := fun a => runB b_kind_of (some a.1, none, ())
-- law_mix: _number:S _k:S
abbrev E_law_mix : Type := (Option Int × Option Int × Unit)
noncomputable def b_law_mix : (Option Int × Option Int × Unit) → Rs (Fl (Option Int × Option Int × Unit) Int) := (dRet (d2 zMod (d2 zMul (d2 zAdd (d2 zAdd (d2 zMul (dV (fun E => E.1)) (dV (fun E => E.1))) (d2 zMul (dV (fun E => E.2.1)) (dV (fun E => E.1)))) (d2 zMul (d2 zMul (dC (7 : Int)) (dV (fun E => E.2.1))) (dV (fun E => E.2.1)))) (dC (1103515245 : Int))) (dC (2147483629 : Int))))
noncomputable def m_law_mix : (Int × Int × Unit) → Rs Int := fun a => runB b_law_mix (some a.1, some a.2.1, ())
-- law_words: 
abbrev E_law_words : Type := (Unit)
noncomputable def b_law_words : (Unit) → Rs (Fl (Unit) (List Str)) := (dRet (dCons (dC ("alike" : Str)) (dCons (dC ("open" : Str)) (dCons (dC ("tails" : Str)) (dCons (dC ("windows" : Str)) (dCons (dC ("tree" : Str)) (dCons (dC ("pairs" : Str)) (dC []))))))))
noncomputable def m_law_words : (Unit) → Rs (List Str) := fun a => runB b_law_words (())
-- law_word: _cell:S _words_here:S _word_here:S _choice:S _at:S _letters:S _k:S
abbrev E_law_word : Type := (Option Int × Option (List Str) × Option Str × Option Int × Option Int × Option Str × Option Int × Unit)
noncomputable def b_law_word : (Option Int × Option (List Str) × Option Str × Option Int × Option Int × Option Str × Option Int × Unit) → Rs (Fl (Option Int × Option (List Str) × Option Str × Option Int × Option Int × Option Str × Option Int × Unit) Str) := (dSeq (dSet (fun E x => (E.1, x, E.2.2)) (fun _ => nox (m_law_words ())))
  (dSeq (dSet (fun E x => (E.1, E.2.1, x, E.2.2.2)) (d2 atI (dV (fun E => E.2.1)) (d2 zMod (dV (fun E => E.1)) (dC (6 : Int)))))
  (dSeq (dSet (fun E x => (E.1, E.2.1, E.2.2.1, x, E.2.2.2.2)) (d2 zMod (d2 zDiv (dV (fun E => E.1)) (dC (6 : Int))) (dC (8 : Int))))
  (dSeq (dSet (fun E x => (E.1, E.2.1, E.2.2.1, E.2.2.2.1, x, E.2.2.2.2.2)) (d2 zMod (dCall m_law_mix (dPair (dV (fun E => E.1)) (dPair (dC (1 : Int)) (dC ())))) (d2 zAdd (d1 lenS (dV (fun E => E.2.2.1))) (dC (1 : Int)))))
  (dSeq (dSet (fun E x => (E.1, E.2.1, E.2.2.1, E.2.2.2.1, E.2.2.2.2.1, x, E.2.2.2.2.2.2)) (dC ("abcdefghijklmnopqrstuvwxyz" : Str)))
  (dSeq (dIte (d2 eqF (dV (fun E => E.2.2.2.1)) (dC (0 : Int))) (dRet (dCutS (dV (fun E => E.2.2.1)) (dC none) (d1 (fun i => some (some i)) (d1 zNeg (dC (1 : Int)))))) dNx)
  (dSeq (dIte (d2 eqF (dV (fun E => E.2.2.2.1)) (dC (1 : Int))) (dRet (d2 catS (d2 catS (dCutS (dV (fun E => E.2.2.1)) (dC none) (d1 (fun i => some (some i)) (dV (fun E => E.2.2.2.2.1)))) (d2 ixS (dV (fun E => E.2.2.2.2.2.1)) (d2 zMod (dCall m_law_mix (dPair (dV (fun E => E.1)) (dPair (dC (2 : Int)) (dC ())))) (dC (26 : Int))))) (dCutS (dV (fun E => E.2.2.1)) (d1 (fun i => some (some i)) (dV (fun E => E.2.2.2.2.1))) (dC none)))) dNx)
  (dSeq (dIte (d2 eqF (dV (fun E => E.2.2.2.1)) (dC (2 : Int))) (dRet (d2 catS (d2 catS (dCutS (dV (fun E => E.2.2.1)) (dC none) (d1 (fun i => some (some i)) (dV (fun E => E.2.2.2.2.1)))) (dC (" " : Str))) (dCutS (dV (fun E => E.2.2.1)) (d1 (fun i => some (some i)) (dV (fun E => E.2.2.2.2.1))) (dC none)))) dNx)
  (dSeq (dIte (d2 eqF (dV (fun E => E.2.2.2.1)) (dC (3 : Int))) (dRet (d2 catS (d2 catS (dCutS (dV (fun E => E.2.2.1)) (dC none) (d1 (fun i => some (some i)) (dV (fun E => E.2.2.2.2.1)))) (d1 upperF (dCutS (dV (fun E => E.2.2.1)) (d1 (fun i => some (some i)) (dV (fun E => E.2.2.2.2.1))) (d1 (fun i => some (some i)) (d2 zAdd (dV (fun E => E.2.2.2.2.1)) (dC (1 : Int))))))) (dCutS (dV (fun E => E.2.2.1)) (d1 (fun i => some (some i)) (d2 zAdd (dV (fun E => E.2.2.2.2.1)) (dC (1 : Int)))) (dC none)))) dNx)
  (dSeq (dIte (d2 eqF (dV (fun E => E.2.2.2.1)) (dC (4 : Int))) (dRet (d2 catS (dV (fun E => E.2.2.1)) (d2 atI (dV (fun E => E.2.1)) (d2 zMod (dCall m_law_mix (dPair (dV (fun E => E.1)) (dPair (dC (3 : Int)) (dC ())))) (dC (6 : Int)))))) dNx)
  (dSeq (dIte (d2 eqF (dV (fun E => E.2.2.2.1)) (dC (5 : Int))) (dRet (d2 joinF (dC ("" : Str)) (lcD (ε1 := (Option Int × Option (List Str) × Option Str × Option Int × Option Int × Option Str × Option Int × Unit)) (ε2 := (Option Int × Option (List Str) × Option Str × Option Int × Option Int × Option Str × Option Int × Unit)) (d1 (rngF 0) (d2 zMod (dCall m_law_mix (dPair (dV (fun E => E.1)) (dPair (dC (4 : Int)) (dC ())))) (dC (10 : Int)))) (fun E => (E.1, E.2.1, E.2.2.1, E.2.2.2.1, E.2.2.2.2.1, E.2.2.2.2.2.1, (none : Option Int), E.2.2.2.2.2.2.2)) (stN (fun E x => (E.1, E.2.1, E.2.2.1, E.2.2.2.1, E.2.2.2.2.1, E.2.2.2.2.2.1, x, E.2.2.2.2.2.2.2))) (dC true) (d2 ixS (dV (fun E => E.2.2.2.2.2.1)) (d2 zMod (dCall m_law_mix (dPair (d2 zAdd (dV (fun E => E.1)) (d2 zMul (dV (fun E => E.2.2.2.2.2.2.1)) (dV (fun E => E.2.2.2.2.2.2.1)))) (dPair (dV (fun E => E.2.2.2.2.2.2.1)) (dC ())))) (dC (26 : Int))))))) dNx)
  (dRet (dV (fun E => E.2.2.1))))))))))))))
noncomputable def m_law_word : (Int × Unit) → Rs Str := fun a => runB b_law_word (some a.1, none, none, none, none, none, none, ())
-- law_is_kind: _kind:S _at:S _word_here:S _found:S _k:S
abbrev E_law_is_kind : Type := (Option Nat × Option Int × Option Str × Option (List Bool) × Option Int × Unit)
noncomputable def b_law_is_kind : (Option Nat × Option Int × Option Str × Option (List Bool) × Option Int × Unit) → Rs (Fl (Option Nat × Option Int × Option Str × Option (List Bool) × Option Int × Unit) Bool) := (dSeq (dIte (dNot (d1 subk_Floor (dV (fun E => E.1)))) (dRet (dC false)) dNx)
  (dSeq (dSet (fun E x => (E.1, E.2.1, x, E.2.2.2)) (dMeth Mt_word (dV (fun E => E.1)) (dC ())))
  (dSeq (dIte (dOr (dNot (d1 (fun _ => some true) (dV (fun E => E.2.2.1)))) (dOr (d2 neF (dV (fun E => E.2.2.1)) (d2 atI (fun _ => nox (m_law_words ())) (dV (fun E => E.2.1)))) (d2 neF (d1 subk_Turns (dV (fun E => E.1))) (d2 zGt (dV (fun E => E.2.1)) (dC (3 : Int)))))) (dRet (dC false)) dNx)
  (dSeq (dSet (fun E x => (E.1, E.2.1, E.2.2.1, x, E.2.2.2.2)) (dCons (d1 subk_Alike (dV (fun E => E.1))) (dCons (d1 subk_Open (dV (fun E => E.1))) (dCons (d1 subk_Tails (dV (fun E => E.1))) (dCons (d1 subk_Windows (dV (fun E => E.1))) (dC []))))))
  (dRet (d2 eqF (d2 catF (dV (fun E => E.2.2.2.1)) (dCons (d1 subk_Tree (dV (fun E => E.1))) (dCons (d1 subk_Pairs (dV (fun E => E.1))) (dC [])))) (lcD (ε1 := (Option Nat × Option Int × Option Str × Option (List Bool) × Option Int × Unit)) (ε2 := (Option Nat × Option Int × Option Str × Option (List Bool) × Option Int × Unit)) (d1 (rngF 0) (dC (6 : Int))) (fun E => (E.1, E.2.1, E.2.2.1, E.2.2.2.1, (none : Option Int), E.2.2.2.2.2)) (stN (fun E x => (E.1, E.2.1, E.2.2.1, E.2.2.2.1, x, E.2.2.2.2.2))) (dC true) (d2 eqF (dV (fun E => E.2.2.2.2.1)) (dV (fun E => E.2.1))))))))))
noncomputable def m_law_is_kind : (Nat × Int × Unit) → Rs Bool := fun a => runB b_law_is_kind (some a.1, some a.2.1, none, none, none, ())
-- law_refused: _word_here:S _caught:S e:S
abbrev E_law_refused : Type := (Option Str × Option (Option Str) × Option Int × Unit)
noncomputable def b_law_refused : (Option Str × Option (Option Str) × Option Int × Unit) → Rs (Fl (Option Str × Option (Option Str) × Option Int × Unit) Bool) := (dSeq (dSet (fun E x => (E.1, x, E.2.2)) (dC (none : Option Str)))
  (dSeq (dTryK sub_FloorError (fun E c => (fun E x => (E.1, E.2.1, x, E.2.2.2)) ((fun E x => (E.1, x, E.2.2)) E (some (some c))) none) (dPair (dV (fun E => E.1)) (dC ())) m_kind_of)
  (dSeq (dIte (dOr (d1 (fun x => x.bind (subL [sub_NoRoom, sub_NoOrder, sub_NoText])) (dV (fun E => E.2.1))) (d1 (fun x => x.bind (subL [sub_NoFloor, sub_NoRow, sub_NoName])) (dV (fun E => E.2.1)))) (dRet (dC false)) dNx)
  (dRet (dAnd (d1 (fun x => x.bind sub_NoKind) (dV (fun E => E.2.1))) (d1 (fun x => x.bind sub_ValueError) (dV (fun E => E.2.1))))))))
noncomputable def m_law_refused : (Str × Unit) → Rs Bool := fun a => runB b_law_refused (some a.1, none, none, ())
-- law: _script:S _made:S _k:S _found:O1 _at:S _cell:S _word_here:S
abbrev E_law : Type := (Option (List Int) × Option (List Nat) × Option Int × Option (List Nat) × Option Int × Option Int × Option Str × Unit)
noncomputable def c_law_3 : (Option (List Int) × Option (List Nat) × Option Int × Option (List Nat) × Option Int × Option Int × Option Str × Unit) → Rs (Fl (Option (List Int) × Option (List Nat) × Option Int × Option (List Nat) × Option Int × Option Int × Option Str × Unit) Bool) := (dFor (d1 (rngF 0) (dC (6 : Int))) (stN (fun E x => (E.1, E.2.1, E.2.2.1, E.2.2.2.1, x, E.2.2.2.2.2))) (dIte (dOr (dNot (dCall m_law_is_kind (dPair (d2 atI (dV (fun E => E.2.2.2.1)) (dV (fun E => E.2.2.2.2.1))) (dPair (dV (fun E => E.2.2.2.2.1)) (dC ()))))) (dNot (dCall m_law_is_kind (dPair (d2 atI (dV (fun E => E.2.1)) (dV (fun E => E.2.2.2.2.1))) (dPair (dV (fun E => E.2.2.2.2.1)) (dC ())))))) (dRet (dC false)) dNx))
noncomputable def t_law_3 : (Option (List Int) × Option (List Nat) × Option Int × Option (List Nat) × Option Int × Option Int × Option Str × Unit) → Rs (Fl (Option (List Int) × Option (List Nat) × Option Int × Option (List Nat) × Option Int × Option Int × Option Str × Unit) Bool) := (dSeq (dPopI (fun E => E.2.2.2.1) (fun E x => (E.1, E.2.1, E.2.2.1, x, E.2.2.2.2)) (d2 zMul (dC (2 : Int)) (dV (fun E => E.2.2.1))))
  (dApp (fun E => E.2.2.2.1) (fun E x => (E.1, E.2.1, E.2.2.1, x, E.2.2.2.2)) (d2 atI (dV (fun E => E.2.2.2.1)) (dC (0 : Int)))))
noncomputable def c_law_1 : (Option (List Int) × Option (List Nat) × Option Int × Option (List Nat) × Option Int × Option Int × Option Str × Unit) → Rs (Fl (Option (List Int) × Option (List Nat) × Option Int × Option (List Nat) × Option Int × Option Int × Option Str × Unit) Bool) := (dFor (d1 (rngF 0) (dC (2 : Int))) (stN (fun E x => (E.1, E.2.1, x, E.2.2.2))) (dSeq (dSet (fun E x => (E.1, E.2.1, E.2.2.1, x, E.2.2.2.2)) (fun _ => nox (m_kinds ())))
  (dSeq (dIte (dOr (dNot (d1 (fun _ => some true) (dV (fun E => E.2.2.2.1)))) (d2 neF (d1 lenF (dV (fun E => E.2.2.2.1))) (dC (6 : Int)))) (dRet (dC false)) dNx)
  (dSeq c_law_3
  t_law_3))))
noncomputable def c_law_5 : (Option (List Int) × Option (List Nat) × Option Int × Option (List Nat) × Option Int × Option Int × Option Str × Unit) → Rs (Fl (Option (List Int) × Option (List Nat) × Option Int × Option (List Nat) × Option Int × Option Int × Option Str × Unit) Bool) := (dFor (d2 catF (dCons (dC (36 : Int)) (dC [])) (dCut (dV (fun E => E.1)) (dC none) (d1 (fun i => some (some i)) (dC (63 : Int))))) (stN (fun E x => (E.1, E.2.1, E.2.2.1, E.2.2.2.1, E.2.2.2.2.1, x, E.2.2.2.2.2.2))) (dSeq (dSet (fun E x => (E.1, E.2.1, E.2.2.1, E.2.2.2.1, E.2.2.2.2.1, E.2.2.2.2.2.1, x, E.2.2.2.2.2.2.2)) (dCall m_law_word (dPair (dV (fun E => E.2.2.2.2.2.1)) (dC ()))))
  (dIte (d2 inF (dV (fun E => E.2.2.2.2.2.2.1)) (fun _ => nox (m_law_words ()))) (dIte (dNot (dCall m_law_is_kind (dPair (dCall m_kind_of (dPair (dV (fun E => E.2.2.2.2.2.2.1)) (dC ()))) (dPair (d2 idxS (fun _ => nox (m_law_words ())) (dV (fun E => E.2.2.2.2.2.2.1))) (dC ()))))) (dRet (dC false)) dNx) (dIte (dNot (dCall m_law_refused (dPair (dV (fun E => E.2.2.2.2.2.2.1)) (dC ())))) (dRet (dC false)) dNx))))
noncomputable def t_law_5 : (Option (List Int) × Option (List Nat) × Option Int × Option (List Nat) × Option Int × Option Int × Option Str × Unit) → Rs (Fl (Option (List Int) × Option (List Nat) × Option Int × Option (List Nat) × Option Int × Option Int × Option Str × Unit) Bool) := (dRet (dC true))
noncomputable def t_law_1 : (Option (List Int) × Option (List Nat) × Option Int × Option (List Nat) × Option Int × Option Int × Option Str × Unit) → Rs (Fl (Option (List Int) × Option (List Nat) × Option Int × Option (List Nat) × Option Int × Option Int × Option Str × Unit) Bool) := (dSeq c_law_5
  t_law_5)
noncomputable def b_law : (Option (List Int) × Option (List Nat) × Option Int × Option (List Nat) × Option Int × Option Int × Option Str × Unit) → Rs (Fl (Option (List Int) × Option (List Nat) × Option Int × Option (List Nat) × Option Int × Option Int × Option Str × Unit) Bool) := (dSeq (dSet (fun E x => (E.1, x, E.2.2)) (dCons (dC 0) (dCons (dC 1) (dCons (dC 2) (dCons (dC 3) (dCons (dC 4) (dCons (dC 5) (dC []))))))))
  (dSeq c_law_1
  t_law_1))
noncomputable def m_law : ((List Int) × Unit) → Rs Bool := fun a => runB b_law (some a.1, none, none, none, none, none, none, ())
end Gen

namespace Law
open PySem L2 Fx Gen
theorem sz_small {k : Int} (h : -1000000 ≤ k ∧ k ≤ 1000000) : Sz 20 k := by unfold Sz; omega
def WORDS : List Str := ["alike", "open", "tails", "windows", "tree", "pairs"]
theorem kinds_eq : m_kinds () = .ok [0, 1, 2, 3, 4, 5] := rfl
theorem words_eq : m_law_words () = .ok WORDS := rfl
theorem word_eq (i : Nat) (hi : i < 6) : Mt_word i (i, ()) = .ok (WORDS.getD i "") := by
  have h : i = 0 ∨ i = 1 ∨ i = 2 ∨ i = 3 ∨ i = 4 ∨ i = 5 := by omega
  rcases h with rfl | rfl | rfl | rfl | rfl | rfl <;> rfl
theorem is_kind_ok (i : Nat) (hi : i < 6) : m_law_is_kind (i, (i : Int), ()) = .ok true := by
  refine wp.eq ?_
  have hF : subk_Floor i = some true := by
    have h : i = 0 ∨ i = 1 ∨ i = 2 ∨ i = 3 ∨ i = 4 ∨ i = 5 := by omega
    rcases h with rfl | rfl | rfl | rfl | rfl | rfl <;> rfl
  have hT : subk_Turns i = some (decide (i > 3)) := by
    have h : i = 0 ∨ i = 1 ∨ i = 2 ∨ i = 3 ∨ i = 4 ∨ i = 5 := by omega
    rcases h with rfl | rfl | rfl | rfl | rfl | rfl <;> rfl
  have h0 : subk_Alike i = some (decide (i = 0)) := by
    have h : i = 0 ∨ i = 1 ∨ i = 2 ∨ i = 3 ∨ i = 4 ∨ i = 5 := by omega
    rcases h with rfl | rfl | rfl | rfl | rfl | rfl <;> rfl
  have h1 : subk_Open i = some (decide (i = 1)) := by
    have h : i = 0 ∨ i = 1 ∨ i = 2 ∨ i = 3 ∨ i = 4 ∨ i = 5 := by omega
    rcases h with rfl | rfl | rfl | rfl | rfl | rfl <;> rfl
  have h2 : subk_Tails i = some (decide (i = 2)) := by
    have h : i = 0 ∨ i = 1 ∨ i = 2 ∨ i = 3 ∨ i = 4 ∨ i = 5 := by omega
    rcases h with rfl | rfl | rfl | rfl | rfl | rfl <;> rfl
  have h3 : subk_Windows i = some (decide (i = 3)) := by
    have h : i = 0 ∨ i = 1 ∨ i = 2 ∨ i = 3 ∨ i = 4 ∨ i = 5 := by omega
    rcases h with rfl | rfl | rfl | rfl | rfl | rfl <;> rfl
  have h4 : subk_Tree i = some (decide (i = 4)) := by
    have h : i = 0 ∨ i = 1 ∨ i = 2 ∨ i = 3 ∨ i = 4 ∨ i = 5 := by omega
    rcases h with rfl | rfl | rfl | rfl | rfl | rfl <;> rfl
  have h5 : subk_Pairs i = some (decide (i = 5)) := by
    have h : i = 0 ∨ i = 1 ∨ i = 2 ∨ i = 3 ∨ i = 4 ∨ i = 5 := by omega
    rcases h with rfl | rfl | rfl | rfl | rfl | rfl <;> rfl
  have aw : atI WORDS (i : Int) = some (WORDS.getD i "") := by
    have := atI_getD (xs := WORDS) (i := (i : Int)) "" (by omega) (show (i : Int) < 6 by omega)
    rwa [Int.toNat_natCast] at this
  have gt3 : (decide ((i : Int) > 3)) = decide (i > 3) := decide_eq_decide.mpr (by omega)
  have ca : catF [decide (i = 0), decide (i = 1), decide (i = 2), decide (i = 3)] [decide (i = 4), decide (i = 5)] = some [decide (i = 0), decide (i = 1), decide (i = 2), decide (i = 3), decide (i = 4), decide (i = 5)] := catF_ok (by show 4 + 2 ≤ 1000000; decide)
  simp only [m_law_is_kind, b_law_is_kind, Fx.runB, Fx.xO, Fx.xA, Fx.xF, Fx.xP, Fx.xZ, Fx.yO, Fx.yA, Fx.yF, Fx.yP, Fx.yZ, Option.map_some, Option.map_none, decide_true, decide_false, Fx.dSeq, Fx.dIte, Fx.dRet, Fx.dSet, Fx.dAsg, Fx.dAug, Fx.dApp, Fx.dSetI, Fx.dIns, Fx.dSetR, Fx.dSet2, Fx.dSwapI, Fx.dPutD, Fx.dRetU, Fx.dCallU, Fx.dOrU, Fx.dIteU, Fx.dMeth, Fx.dPopI, Fx.inD, Fx.notInD, Fx.dAppR, Fx.dForRow, Fx.dFor, Fx.dBrk, Fx.dCnt, Fx.d1, Fx.d2, Fx.dV, Fx.dC, Fx.dAnd, Fx.dOr, Fx.dNot, Fx.dIf, Fx.dCall, Fx.dCallX, Fx.dPair, Fx.dCons, Fx.dCut, Fx.dStep, Fx.dNx, Fx.lcD, Fx.lcS, Fx.wp_bind, Fx.wp_ok, Fx.wp_ite, Fx.wp_nox, Fx.ofO_some, Fx.ofO_none, Fx.Rs.bind_ok, Fx.nox_ok, Fx.iI, Fx.eqF, Fx.neF, Fx.stN, Fx.stL, Fx.stLc, Fx.stLn, Fx.stC, Fx.lenF, Fx.sumF, Fx.max2F, Fx.min2F, Fx.allF, Fx.anyF, Option.bind_some, if_true, if_false, Bool.not_eq_true, decide_eq_true_eq, Bool.not_true, Bool.not_false, Bool.false_eq_true, reduceIte, Fx.zMod_ok, Int.reduceLT, Int.reduceLE, Int.reduceNeg, and_self, true_and, hF, hT, word_eq i hi, words_eq, aw, gt3, ne_eq, not_true, h0, h1, h2, h3, h4, h5, ca]
  refine wp_some (rngF_nat (n := 6) (by omega)) ?_
  refine wp_of_eq (lcR_map (g := fun k => decide (k = (i : Int))) fun k _ => ?_) ?_
  · refine wp.eq ?_
    simp only [Fx.runB, Fx.xO, Fx.xA, Fx.xF, Fx.xP, Fx.xZ, Fx.yO, Fx.yA, Fx.yF, Fx.yP, Fx.yZ, Option.map_some, Option.map_none, decide_true, decide_false, Fx.dSeq, Fx.dIte, Fx.dRet, Fx.dSet, Fx.dAsg, Fx.dAug, Fx.dApp, Fx.dSetI, Fx.dIns, Fx.dSetR, Fx.dSet2, Fx.dSwapI, Fx.dPutD, Fx.dRetU, Fx.dCallU, Fx.dOrU, Fx.dIteU, Fx.dMeth, Fx.dPopI, Fx.inD, Fx.notInD, Fx.dAppR, Fx.dForRow, Fx.dFor, Fx.dBrk, Fx.dCnt, Fx.d1, Fx.d2, Fx.dV, Fx.dC, Fx.dAnd, Fx.dOr, Fx.dNot, Fx.dIf, Fx.dCall, Fx.dCallX, Fx.dPair, Fx.dCons, Fx.dCut, Fx.dStep, Fx.dNx, Fx.lcD, Fx.lcS, Fx.wp_bind, Fx.wp_ok, Fx.wp_ite, Fx.wp_nox, Fx.ofO_some, Fx.ofO_none, Fx.Rs.bind_ok, Fx.nox_ok, Fx.iI, Fx.eqF, Fx.neF, Fx.stN, Fx.stL, Fx.stLc, Fx.stLn, Fx.stC, Fx.lenF, Fx.sumF, Fx.max2F, Fx.min2F, Fx.allF, Fx.anyF, Option.bind_some, if_true, if_false, Bool.not_eq_true, decide_eq_true_eq, Bool.not_true, Bool.not_false, Bool.false_eq_true, reduceIte, Fx.zMod_ok, Int.reduceLT, Int.reduceLE, Int.reduceNeg, and_self, true_and]
  have h : i = 0 ∨ i = 1 ∨ i = 2 ∨ i = 3 ∨ i = 4 ∨ i = 5 := by omega
  rcases h with rfl | rfl | rfl | rfl | rfl | rfl <;> decide
theorem idx_words : ∀ i : Fin 6, idxS WORDS (WORDS.getD i.1 "") = some (i.1 : Int) := by decide +kernel
theorem kind_of_in {w : Str} (h : w ∈ WORDS) : ∃ i : Nat, i < 6 ∧ m_kind_of (w, ()) = .ok i ∧ idxS WORDS w = some (i : Int) := by
  suffices hw : wp (m_kind_of (w, ())) fun i => i < 6 ∧ WORDS.getD i "" = w by
    obtain ⟨i, e, hi, rfl⟩ := hw.of
    exact ⟨i, hi, e, idx_words ⟨i, hi⟩⟩
  simp only [m_kind_of, b_kind_of, Fx.runB, Fx.xO, Fx.xA, Fx.xF, Fx.xP, Fx.xZ, Fx.yO, Fx.yA, Fx.yF, Fx.yP, Fx.yZ, Option.map_some, Option.map_none, decide_true, decide_false, Fx.dSeq, Fx.dIte, Fx.dRet, Fx.dSet, Fx.dAsg, Fx.dAug, Fx.dApp, Fx.dSetI, Fx.dIns, Fx.dSetR, Fx.dSet2, Fx.dSwapI, Fx.dPutD, Fx.dRetU, Fx.dCallU, Fx.dOrU, Fx.dIteU, Fx.dMeth, Fx.dPopI, Fx.inD, Fx.notInD, Fx.dAppR, Fx.dForRow, Fx.dFor, Fx.dBrk, Fx.dCnt, Fx.d1, Fx.d2, Fx.dV, Fx.dC, Fx.dAnd, Fx.dOr, Fx.dNot, Fx.dIf, Fx.dCall, Fx.dCallX, Fx.dPair, Fx.dCons, Fx.dCut, Fx.dStep, Fx.dNx, Fx.lcD, Fx.lcS, Fx.wp_bind, Fx.wp_ok, Fx.wp_ite, Fx.wp_nox, Fx.ofO_some, Fx.ofO_none, Fx.Rs.bind_ok, Fx.nox_ok, Fx.iI, Fx.eqF, Fx.neF, Fx.stN, Fx.stL, Fx.stLc, Fx.stLn, Fx.stC, Fx.lenF, Fx.sumF, Fx.max2F, Fx.min2F, Fx.allF, Fx.anyF, Option.bind_some, if_true, if_false, Bool.not_eq_true, decide_eq_true_eq, Bool.not_true, Bool.not_false, Bool.false_eq_true, reduceIte, Fx.zMod_ok, Int.reduceLT, Int.reduceLE, Int.reduceNeg, and_self, true_and]
  refine wp.mono (Q := fun fl => ∃ i, fl = .rt i ∧ i < 6 ∧ WORDS.getD i "" = w) ?_ ?_
  · simp only [c_kind_of_1, Fx.runB, Fx.xO, Fx.xA, Fx.xF, Fx.xP, Fx.xZ, Fx.yO, Fx.yA, Fx.yF, Fx.yP, Fx.yZ, Option.map_some, Option.map_none, decide_true, decide_false, Fx.dSeq, Fx.dIte, Fx.dRet, Fx.dSet, Fx.dAsg, Fx.dAug, Fx.dApp, Fx.dSetI, Fx.dIns, Fx.dSetR, Fx.dSet2, Fx.dSwapI, Fx.dPutD, Fx.dRetU, Fx.dCallU, Fx.dOrU, Fx.dIteU, Fx.dMeth, Fx.dPopI, Fx.inD, Fx.notInD, Fx.dAppR, Fx.dForRow, Fx.dFor, Fx.dBrk, Fx.dCnt, Fx.d1, Fx.d2, Fx.dV, Fx.dC, Fx.dAnd, Fx.dOr, Fx.dNot, Fx.dIf, Fx.dCall, Fx.dCallX, Fx.dPair, Fx.dCons, Fx.dCut, Fx.dStep, Fx.dNx, Fx.lcD, Fx.lcS, Fx.wp_bind, Fx.wp_ok, Fx.wp_ite, Fx.wp_nox, Fx.ofO_some, Fx.ofO_none, Fx.Rs.bind_ok, Fx.nox_ok, Fx.iI, Fx.eqF, Fx.neF, Fx.stN, Fx.stL, Fx.stLc, Fx.stLn, Fx.stC, Fx.lenF, Fx.sumF, Fx.max2F, Fx.min2F, Fx.allF, Fx.anyF, Option.bind_some, if_true, if_false, Bool.not_eq_true, decide_eq_true_eq, Bool.not_true, Bool.not_false, Bool.false_eq_true, reduceIte, Fx.zMod_ok, Int.reduceLT, Int.reduceLE, Int.reduceNeg, and_self, true_and, kinds_eq]
    refine wp_forL (fun d E => ∃ x1, E = (some w, x1, ()) ∧ ∀ i ∈ d, WORDS.getD i "" ≠ w) _ _ ⟨_, rfl, fun _ h => nomatch h⟩ ?_ ?_
    · rintro d i r E hx ⟨x1, rfl, hd⟩
      refine ⟨_, rfl, ?_⟩
      have hi : i < 6 := by
        have : i ∈ [0, 1, 2, 3, 4, 5] := by rw [hx]; simp
        simp at this
        omega
      by_cases q : WORDS.getD i "" = w
      · simp only [Fx.runB, Fx.xO, Fx.xA, Fx.xF, Fx.xP, Fx.xZ, Fx.yO, Fx.yA, Fx.yF, Fx.yP, Fx.yZ, Option.map_some, Option.map_none, decide_true, decide_false, Fx.dSeq, Fx.dIte, Fx.dRet, Fx.dSet, Fx.dAsg, Fx.dAug, Fx.dApp, Fx.dSetI, Fx.dIns, Fx.dSetR, Fx.dSet2, Fx.dSwapI, Fx.dPutD, Fx.dRetU, Fx.dCallU, Fx.dOrU, Fx.dIteU, Fx.dMeth, Fx.dPopI, Fx.inD, Fx.notInD, Fx.dAppR, Fx.dForRow, Fx.dFor, Fx.dBrk, Fx.dCnt, Fx.d1, Fx.d2, Fx.dV, Fx.dC, Fx.dAnd, Fx.dOr, Fx.dNot, Fx.dIf, Fx.dCall, Fx.dCallX, Fx.dPair, Fx.dCons, Fx.dCut, Fx.dStep, Fx.dNx, Fx.lcD, Fx.lcS, Fx.wp_bind, Fx.wp_ok, Fx.wp_ite, Fx.wp_nox, Fx.ofO_some, Fx.ofO_none, Fx.Rs.bind_ok, Fx.nox_ok, Fx.iI, Fx.eqF, Fx.neF, Fx.stN, Fx.stL, Fx.stLc, Fx.stLn, Fx.stC, Fx.lenF, Fx.sumF, Fx.max2F, Fx.min2F, Fx.allF, Fx.anyF, Option.bind_some, if_true, if_false, Bool.not_eq_true, decide_eq_true_eq, Bool.not_true, Bool.not_false, Bool.false_eq_true, reduceIte, Fx.zMod_ok, Int.reduceLT, Int.reduceLE, Int.reduceNeg, and_self, true_and, word_eq i hi, q]
        exact ⟨i, rfl, hi, q⟩
      · simp only [Fx.runB, Fx.xO, Fx.xA, Fx.xF, Fx.xP, Fx.xZ, Fx.yO, Fx.yA, Fx.yF, Fx.yP, Fx.yZ, Option.map_some, Option.map_none, decide_true, decide_false, Fx.dSeq, Fx.dIte, Fx.dRet, Fx.dSet, Fx.dAsg, Fx.dAug, Fx.dApp, Fx.dSetI, Fx.dIns, Fx.dSetR, Fx.dSet2, Fx.dSwapI, Fx.dPutD, Fx.dRetU, Fx.dCallU, Fx.dOrU, Fx.dIteU, Fx.dMeth, Fx.dPopI, Fx.inD, Fx.notInD, Fx.dAppR, Fx.dForRow, Fx.dFor, Fx.dBrk, Fx.dCnt, Fx.d1, Fx.d2, Fx.dV, Fx.dC, Fx.dAnd, Fx.dOr, Fx.dNot, Fx.dIf, Fx.dCall, Fx.dCallX, Fx.dPair, Fx.dCons, Fx.dCut, Fx.dStep, Fx.dNx, Fx.lcD, Fx.lcS, Fx.wp_bind, Fx.wp_ok, Fx.wp_ite, Fx.wp_nox, Fx.ofO_some, Fx.ofO_none, Fx.Rs.bind_ok, Fx.nox_ok, Fx.iI, Fx.eqF, Fx.neF, Fx.stN, Fx.stL, Fx.stLc, Fx.stLn, Fx.stC, Fx.lenF, Fx.sumF, Fx.max2F, Fx.min2F, Fx.allF, Fx.anyF, Option.bind_some, if_true, if_false, Bool.not_eq_true, decide_eq_true_eq, Bool.not_true, Bool.not_false, Bool.false_eq_true, reduceIte, Fx.zMod_ok, Int.reduceLT, Int.reduceLE, Int.reduceNeg, and_self, true_and, word_eq i hi, q]
        refine ⟨_, rfl, fun k hk => ?_⟩
        rcases List.mem_append.mp hk with z | z
        · exact hd k z
        · rw [List.mem_singleton.mp z]; exact q
    · rintro E ⟨x1, rfl, hd⟩
      obtain ⟨j, hj⟩ := List.mem_iff_getElem?.mp h
      have jl := (List.getElem?_eq_some_iff.mp hj).1
      have jl : j < 6 := jl
      have jm : j ∈ [0, 1, 2, 3, 4, 5] := by simp; omega
      exact absurd (by rw [List.getD_eq_getElem?_getD, hj]; rfl) (hd j jm)
  · rintro _ ⟨i, rfl, hi, e⟩
    simp only [Fx.runB, Fx.xO, Fx.xA, Fx.xF, Fx.xP, Fx.xZ, Fx.yO, Fx.yA, Fx.yF, Fx.yP, Fx.yZ, Option.map_some, Option.map_none, decide_true, decide_false, Fx.dSeq, Fx.dIte, Fx.dRet, Fx.dSet, Fx.dAsg, Fx.dAug, Fx.dApp, Fx.dSetI, Fx.dIns, Fx.dSetR, Fx.dSet2, Fx.dSwapI, Fx.dPutD, Fx.dRetU, Fx.dCallU, Fx.dOrU, Fx.dIteU, Fx.dMeth, Fx.dPopI, Fx.inD, Fx.notInD, Fx.dAppR, Fx.dForRow, Fx.dFor, Fx.dBrk, Fx.dCnt, Fx.d1, Fx.d2, Fx.dV, Fx.dC, Fx.dAnd, Fx.dOr, Fx.dNot, Fx.dIf, Fx.dCall, Fx.dCallX, Fx.dPair, Fx.dCons, Fx.dCut, Fx.dStep, Fx.dNx, Fx.lcD, Fx.lcS, Fx.wp_bind, Fx.wp_ok, Fx.wp_ite, Fx.wp_nox, Fx.ofO_some, Fx.ofO_none, Fx.Rs.bind_ok, Fx.nox_ok, Fx.iI, Fx.eqF, Fx.neF, Fx.stN, Fx.stL, Fx.stLc, Fx.stLn, Fx.stC, Fx.lenF, Fx.sumF, Fx.max2F, Fx.min2F, Fx.allF, Fx.anyF, Option.bind_some, if_true, if_false, Bool.not_eq_true, decide_eq_true_eq, Bool.not_true, Bool.not_false, Bool.false_eq_true, reduceIte, Fx.zMod_ok, Int.reduceLT, Int.reduceLE, Int.reduceNeg, and_self, true_and]
    exact ⟨hi, e⟩
theorem kind_of_out {w : Str} (h : w ∉ WORDS) : m_kind_of (w, ()) = .exc "NoKind" := by
  refine wx.eq ?_
  simp only [m_kind_of, b_kind_of, Fx.runB, Fx.xO, Fx.xA, Fx.xF, Fx.xP, Fx.xZ, Fx.yO, Fx.yA, Fx.yF, Fx.yP, Fx.yZ, Option.map_some, Option.map_none, decide_true, decide_false, Fx.dSeq, Fx.dIte, Fx.dRet, Fx.dSet, Fx.dAsg, Fx.dAug, Fx.dApp, Fx.dSetI, Fx.dIns, Fx.dSetR, Fx.dSet2, Fx.dSwapI, Fx.dPutD, Fx.dRetU, Fx.dCallU, Fx.dOrU, Fx.dIteU, Fx.dMeth, Fx.dPopI, Fx.inD, Fx.notInD, Fx.dAppR, Fx.dForRow, Fx.dFor, Fx.dBrk, Fx.dCnt, Fx.d1, Fx.d2, Fx.dV, Fx.dC, Fx.dAnd, Fx.dOr, Fx.dNot, Fx.dIf, Fx.dCall, Fx.dCallX, Fx.dPair, Fx.dCons, Fx.dCut, Fx.dStep, Fx.dNx, Fx.lcD, Fx.lcS, Fx.wp_bind, Fx.wp_ok, Fx.wp_ite, Fx.wp_nox, Fx.ofO_some, Fx.ofO_none, Fx.Rs.bind_ok, Fx.nox_ok, Fx.iI, Fx.eqF, Fx.neF, Fx.stN, Fx.stL, Fx.stLc, Fx.stLn, Fx.stC, Fx.lenF, Fx.sumF, Fx.max2F, Fx.min2F, Fx.allF, Fx.anyF, Option.bind_some, if_true, if_false, Bool.not_eq_true, decide_eq_true_eq, Bool.not_true, Bool.not_false, Bool.false_eq_true, reduceIte, Fx.zMod_ok, Int.reduceLT, Int.reduceLE, Int.reduceNeg, and_self, true_and, Fx.dCallX, Fx.runN, Fx.wx_bind, Fx.wx_ok, Fx.wx_exc, Fx.wx_ite, Fx.wx_nox]
  refine wx.mono (Q := fun fl => ∃ x1, fl = .nx (some w, x1, ())) ?_ ?_
  · simp only [c_kind_of_1, Fx.runB, Fx.xO, Fx.xA, Fx.xF, Fx.xP, Fx.xZ, Fx.yO, Fx.yA, Fx.yF, Fx.yP, Fx.yZ, Option.map_some, Option.map_none, decide_true, decide_false, Fx.dSeq, Fx.dIte, Fx.dRet, Fx.dSet, Fx.dAsg, Fx.dAug, Fx.dApp, Fx.dSetI, Fx.dIns, Fx.dSetR, Fx.dSet2, Fx.dSwapI, Fx.dPutD, Fx.dRetU, Fx.dCallU, Fx.dOrU, Fx.dIteU, Fx.dMeth, Fx.dPopI, Fx.inD, Fx.notInD, Fx.dAppR, Fx.dForRow, Fx.dFor, Fx.dBrk, Fx.dCnt, Fx.d1, Fx.d2, Fx.dV, Fx.dC, Fx.dAnd, Fx.dOr, Fx.dNot, Fx.dIf, Fx.dCall, Fx.dCallX, Fx.dPair, Fx.dCons, Fx.dCut, Fx.dStep, Fx.dNx, Fx.lcD, Fx.lcS, Fx.wp_bind, Fx.wp_ok, Fx.wp_ite, Fx.wp_nox, Fx.ofO_some, Fx.ofO_none, Fx.Rs.bind_ok, Fx.nox_ok, Fx.iI, Fx.eqF, Fx.neF, Fx.stN, Fx.stL, Fx.stLc, Fx.stLn, Fx.stC, Fx.lenF, Fx.sumF, Fx.max2F, Fx.min2F, Fx.allF, Fx.anyF, Option.bind_some, if_true, if_false, Bool.not_eq_true, decide_eq_true_eq, Bool.not_true, Bool.not_false, Bool.false_eq_true, reduceIte, Fx.zMod_ok, Int.reduceLT, Int.reduceLE, Int.reduceNeg, and_self, true_and, Fx.dCallX, Fx.runN, Fx.wx_bind, Fx.wx_ok, Fx.wx_exc, Fx.wx_ite, Fx.wx_nox, kinds_eq]
    refine wx_forL (fun d E => ∃ x1, E = (some w, x1, ())) _ _ ⟨_, rfl⟩ ?_ ?_
    · rintro d i r E hx ⟨x1, rfl⟩
      refine ⟨_, rfl, ?_⟩
      have hi : i < 6 := by
        have : i ∈ [0, 1, 2, 3, 4, 5] := by rw [hx]; simp
        simp at this
        omega
      have ne : ¬ WORDS.getD i "" = w := fun z => h (by
        rw [← z, List.getD_eq_getElem?_getD, List.getElem?_eq_getElem (show i < WORDS.length from hi)]
        exact List.getElem_mem _)
      simp only [Fx.runB, Fx.xO, Fx.xA, Fx.xF, Fx.xP, Fx.xZ, Fx.yO, Fx.yA, Fx.yF, Fx.yP, Fx.yZ, Option.map_some, Option.map_none, decide_true, decide_false, Fx.dSeq, Fx.dIte, Fx.dRet, Fx.dSet, Fx.dAsg, Fx.dAug, Fx.dApp, Fx.dSetI, Fx.dIns, Fx.dSetR, Fx.dSet2, Fx.dSwapI, Fx.dPutD, Fx.dRetU, Fx.dCallU, Fx.dOrU, Fx.dIteU, Fx.dMeth, Fx.dPopI, Fx.inD, Fx.notInD, Fx.dAppR, Fx.dForRow, Fx.dFor, Fx.dBrk, Fx.dCnt, Fx.d1, Fx.d2, Fx.dV, Fx.dC, Fx.dAnd, Fx.dOr, Fx.dNot, Fx.dIf, Fx.dCall, Fx.dCallX, Fx.dPair, Fx.dCons, Fx.dCut, Fx.dStep, Fx.dNx, Fx.lcD, Fx.lcS, Fx.wp_bind, Fx.wp_ok, Fx.wp_ite, Fx.wp_nox, Fx.ofO_some, Fx.ofO_none, Fx.Rs.bind_ok, Fx.nox_ok, Fx.iI, Fx.eqF, Fx.neF, Fx.stN, Fx.stL, Fx.stLc, Fx.stLn, Fx.stC, Fx.lenF, Fx.sumF, Fx.max2F, Fx.min2F, Fx.allF, Fx.anyF, Option.bind_some, if_true, if_false, Bool.not_eq_true, decide_eq_true_eq, Bool.not_true, Bool.not_false, Bool.false_eq_true, reduceIte, Fx.zMod_ok, Int.reduceLT, Int.reduceLE, Int.reduceNeg, and_self, true_and, Fx.dCallX, Fx.runN, Fx.wx_bind, Fx.wx_ok, Fx.wx_exc, Fx.wx_ite, Fx.wx_nox, word_eq i hi, ne]
      exact ⟨_, rfl⟩
    · rintro E ⟨x1, rfl⟩
      exact ⟨_, rfl⟩
  · rintro _ ⟨x1, rfl⟩
    simp only [t_kind_of_1, Fx.runB, Fx.xO, Fx.xA, Fx.xF, Fx.xP, Fx.xZ, Fx.yO, Fx.yA, Fx.yF, Fx.yP, Fx.yZ, Option.map_some, Option.map_none, decide_true, decide_false, Fx.dSeq, Fx.dIte, Fx.dRet, Fx.dSet, Fx.dAsg, Fx.dAug, Fx.dApp, Fx.dSetI, Fx.dIns, Fx.dSetR, Fx.dSet2, Fx.dSwapI, Fx.dPutD, Fx.dRetU, Fx.dCallU, Fx.dOrU, Fx.dIteU, Fx.dMeth, Fx.dPopI, Fx.inD, Fx.notInD, Fx.dAppR, Fx.dForRow, Fx.dFor, Fx.dBrk, Fx.dCnt, Fx.d1, Fx.d2, Fx.dV, Fx.dC, Fx.dAnd, Fx.dOr, Fx.dNot, Fx.dIf, Fx.dCall, Fx.dCallX, Fx.dPair, Fx.dCons, Fx.dCut, Fx.dStep, Fx.dNx, Fx.lcD, Fx.lcS, Fx.wp_bind, Fx.wp_ok, Fx.wp_ite, Fx.wp_nox, Fx.ofO_some, Fx.ofO_none, Fx.Rs.bind_ok, Fx.nox_ok, Fx.iI, Fx.eqF, Fx.neF, Fx.stN, Fx.stL, Fx.stLc, Fx.stLn, Fx.stC, Fx.lenF, Fx.sumF, Fx.max2F, Fx.min2F, Fx.allF, Fx.anyF, Option.bind_some, if_true, if_false, Bool.not_eq_true, decide_eq_true_eq, Bool.not_true, Bool.not_false, Bool.false_eq_true, reduceIte, Fx.zMod_ok, Int.reduceLT, Int.reduceLE, Int.reduceNeg, and_self, true_and, Fx.dCallX, Fx.runN, Fx.wx_bind, Fx.wx_ok, Fx.wx_exc, Fx.wx_ite, Fx.wx_nox]
theorem refused_ok {w : Str} (h : m_kind_of (w, ()) = .exc "NoKind") : m_law_refused (w, ()) = .ok true := by
  refine wp.eq ?_
  have e1 : sub_NoKind "NoKind" = some true := if_pos rfl
  have e2 : sub_FloorError "NoKind" = some true := if_pos rfl
  have e3 : sub_NoRoom "NoKind" = some false := if_pos rfl
  have e4 : sub_NoText "NoKind" = some false := if_pos rfl
  have e5 : sub_NoOrder "NoKind" = some false := if_pos rfl
  have e6 : sub_NoFloor "NoKind" = some false := if_pos rfl
  have e7 : sub_NoRow "NoKind" = some false := if_pos rfl
  have e8 : sub_NoName "NoKind" = some false := if_pos rfl
  have e9 : sub_ValueError "NoKind" = some true := if_pos rfl
  simp only [m_law_refused, b_law_refused, dTryK, Fx.runB, Fx.xO, Fx.xA, Fx.xF, Fx.xP, Fx.xZ, Fx.yO, Fx.yA, Fx.yF, Fx.yP, Fx.yZ, Option.map_some, Option.map_none, decide_true, decide_false, Fx.dSeq, Fx.dIte, Fx.dRet, Fx.dSet, Fx.dAsg, Fx.dAug, Fx.dApp, Fx.dSetI, Fx.dIns, Fx.dSetR, Fx.dSet2, Fx.dSwapI, Fx.dPutD, Fx.dRetU, Fx.dCallU, Fx.dOrU, Fx.dIteU, Fx.dMeth, Fx.dPopI, Fx.inD, Fx.notInD, Fx.dAppR, Fx.dForRow, Fx.dFor, Fx.dBrk, Fx.dCnt, Fx.d1, Fx.d2, Fx.dV, Fx.dC, Fx.dAnd, Fx.dOr, Fx.dNot, Fx.dIf, Fx.dCall, Fx.dCallX, Fx.dPair, Fx.dCons, Fx.dCut, Fx.dStep, Fx.dNx, Fx.lcD, Fx.lcS, Fx.wp_bind, Fx.wp_ok, Fx.wp_ite, Fx.wp_nox, Fx.ofO_some, Fx.ofO_none, Fx.Rs.bind_ok, Fx.nox_ok, Fx.iI, Fx.eqF, Fx.neF, Fx.stN, Fx.stL, Fx.stLc, Fx.stLn, Fx.stC, Fx.lenF, Fx.sumF, Fx.max2F, Fx.min2F, Fx.allF, Fx.anyF, Option.bind_some, if_true, if_false, Bool.not_eq_true, decide_eq_true_eq, Bool.not_true, Bool.not_false, Bool.false_eq_true, reduceIte, Fx.zMod_ok, Int.reduceLT, Int.reduceLE, Int.reduceNeg, and_self, true_and, h, e1, e2, e3, e4, e5, e6, e7, e8, e9, Option.bind_some, subL]
/-! ### the words drawn -/
theorem mix_ok {c k : Int} (hc : Sz 1048577 c) (hk : -100 ≤ k ∧ k ≤ 100) : ∃ v, m_law_mix (c, k, ()) = .ok v ∧ 0 ≤ v ∧ v < 2147483629 := by
  have sk : Sz 7 k := by unfold Sz; omega
  have z1 := zMul_ok (hc.mulOk hc (by decide) (by decide) (by decide))
  have z2 := zMul_ok (sk.mulOk hc (by decide) (by decide) (by decide))
  have s7 : Sz 3 7 := by unfold Sz; decide
  have z3 := zMul_ok (s7.mulOk sk (by decide) (by decide) (by decide))
  have z4 := zMul_ok ((s7.mul sk).mulOk sk (by decide) (by decide) (by decide))
  have s1 : Sz 2097156 (c * c + k * c + 7 * k * k) := by
    have a := (hc.mul hc).mono (show 1048577 + 1048577 ≤ 2097154 by decide)
    have b := (sk.mul hc).mono (show 7 + 1048577 ≤ 2097153 by decide)
    have d := ((s7.mul sk).mul sk).mono (show 3 + 7 + 7 ≤ 2097155 by decide)
    have e := (show Sz 2097155 (c * c + k * c) from by
      have a' := (hc.mul hc).mono (show 1048577 + 1048577 ≤ 2097154 by decide)
      have q := Sz.add ((hc.mul hc)) (b.mono (show 2097153 ≤ 1048577 + 1048577 by decide))
      exact q.mono (by decide)) 
    exact Sz.add e d
  have sb : Sz 31 1103515245 := by unfold Sz; decide
  have z5 := zMul_ok (s1.mulOk sb (by decide) (by decide) (by decide))
  refine ⟨(c * c + k * c + 7 * k * k) * 1103515245 % 2147483629, ?_, by omega, by omega⟩
  refine wp.eq ?_
  simp only [m_law_mix, b_law_mix, Fx.runB, Fx.xO, Fx.xA, Fx.xF, Fx.xP, Fx.xZ, Fx.yO, Fx.yA, Fx.yF, Fx.yP, Fx.yZ, Option.map_some, Option.map_none, decide_true, decide_false, Fx.dSeq, Fx.dIte, Fx.dRet, Fx.dSet, Fx.dAsg, Fx.dAug, Fx.dApp, Fx.dSetI, Fx.dIns, Fx.dSetR, Fx.dSet2, Fx.dSwapI, Fx.dPutD, Fx.dRetU, Fx.dCallU, Fx.dOrU, Fx.dIteU, Fx.dMeth, Fx.dPopI, Fx.inD, Fx.notInD, Fx.dAppR, Fx.dForRow, Fx.dFor, Fx.dBrk, Fx.dCnt, Fx.d1, Fx.d2, Fx.dV, Fx.dC, Fx.dAnd, Fx.dOr, Fx.dNot, Fx.dIf, Fx.dCall, Fx.dCallX, Fx.dPair, Fx.dCons, Fx.dCut, Fx.dStep, Fx.dNx, Fx.lcD, Fx.lcS, Fx.wp_bind, Fx.wp_ok, Fx.wp_ite, Fx.wp_nox, Fx.ofO_some, Fx.ofO_none, Fx.Rs.bind_ok, Fx.nox_ok, Fx.iI, Fx.eqF, Fx.neF, Fx.stN, Fx.stL, Fx.stLc, Fx.stLn, Fx.stC, Fx.lenF, Fx.sumF, Fx.max2F, Fx.min2F, Fx.allF, Fx.anyF, Option.bind_some, if_true, if_false, Bool.not_eq_true, decide_eq_true_eq, Bool.not_true, Bool.not_false, Bool.false_eq_true, reduceIte, Fx.zMod_ok, Int.reduceLT, Int.reduceLE, Int.reduceNeg, and_self, true_and, z1, z2, z3, z4, z5]
theorem cut_len (z : Str) (lo hi : Option Int) : (cutS z lo hi).length ≤ z.length := cutS_length z lo hi
theorem lcR_ex {α β : Type} {step : α → Rs (Option β)} {P : β → Prop} : ∀ {xs : List α}, (∀ x ∈ xs, ∃ z, step x = .ok (some z) ∧ P z) → ∃ ys, lcR step xs = .ok ys ∧ ys.length = xs.length ∧ ∀ y ∈ ys, P y
  | [], _ => ⟨[], rfl, rfl, fun _ h => nomatch h⟩
  | x :: xs, h => by
    obtain ⟨z, e1, p1⟩ := h x List.mem_cons_self
    obtain ⟨ys, e2, l2, p2⟩ := lcR_ex fun y hy => h y (List.mem_cons_of_mem _ hy)
    refine ⟨z :: ys, ?_, by rw [List.length_cons, List.length_cons, l2], fun y hy => ?_⟩
    · unfold lcR
      rw [e1, e2]
      rfl
    · rcases List.mem_cons.mp hy with rfl | q
      · exact p1
      · exact p2 y q
theorem wp_lcR_ex {α β : Type} {step : α → Rs (Option β)} {P : β → Prop} {xs : List α} {Q : List β → Prop} (h : ∀ x ∈ xs, wp (step x) fun o => ∃ z, o = some z ∧ P z) (k : ∀ ys : List β, ys.length = xs.length → (∀ y ∈ ys, P y) → Q ys) : wp (lcR step xs) Q := by
  obtain ⟨ys, e, l, p⟩ := lcR_ex (step := step) (P := P) (xs := xs) fun x hx => by
    obtain ⟨o, e, z, rfl, p⟩ := (h x hx).of
    exact ⟨z, e, p⟩
  exact wp_of_eq e (k ys l p)
theorem sum_ones : ∀ {ys : List Str}, (∀ y ∈ ys, y.length = 1) → (ys.map (·.length)).sum = ys.length
  | [], _ => rfl
  | y :: ys, h => by
    rw [List.map_cons, List.sum_cons, sum_ones fun z hz => h z (List.mem_cons_of_mem _ hz), h y List.mem_cons_self, List.length_cons]
    omega
theorem up_len : ∀ i : Fin 6, ∀ a : Fin 9, (Txt.upper (cutS (WORDS.getD i.1 "") (some (a.1 : Int)) (some ((a.1 : Int) + 1)))).length ≤ 100 := by
  decide +kernel
theorem words_len : ∀ i : Fin 6, (WORDS.getD i.1 "").length ≤ 7 := by decide +kernel
theorem lett_ok {x : Int} (h0 : 0 ≤ x) (h1 : x < 26) : ∃ z, ixS "abcdefghijklmnopqrstuvwxyz" x = some z ∧ z.length = 1 := by
  have hl : ("abcdefghijklmnopqrstuvwxyz" : Str).length = 26 := by decide +kernel
  have hc : ("abcdefghijklmnopqrstuvwxyz" : Str).cps.toList.length = 26 := by decide +kernel
  unfold ixS
  rw [cIf_pos (by rw [hl]; decide), atI_pos (xs := ("abcdefghijklmnopqrstuvwxyz" : Str).cps.toList) h0 (by omega)]
  exact ⟨_, rfl, rfl⟩
theorem word_ok {c : Int} (hc : Sz 1048576 c) : ∃ w, m_law_word (c, ()) = .ok w := by
  suffices h : wp (m_law_word (c, ())) fun _ => True by
    obtain ⟨w, e, _⟩ := h.of
    exact ⟨w, e⟩
  have hc1 : Sz 1048577 c := hc.mono (by decide)
  obtain ⟨m1, e1, b1⟩ := mix_ok hc1 (k := 1) (by decide)
  obtain ⟨m2, e2, b2⟩ := mix_ok hc1 (k := 2) (by decide)
  obtain ⟨m3, e3, b3⟩ := mix_ok hc1 (k := 3) (by decide)
  obtain ⟨m4, e4, b4⟩ := mix_ok hc1 (k := 4) (by decide)
  obtain ⟨i, ei, hi⟩ : ∃ i : Nat, c % 6 = (i : Int) ∧ i < 6 := ⟨(c % 6).toNat, by omega, by omega⟩
  have aw : ∀ j : Nat, j < 6 → atI WORDS (j : Int) = some (WORDS.getD j "") := fun j hj => by
    have := atI_getD (xs := WORDS) (i := (j : Int)) "" (by omega) (show (j : Int) < 6 by omega)
    rwa [Int.toNat_natCast] at this
  have d6 : zDiv c 6 = some (c / 6) := zDiv_ok (by decide) (by decide)
  have wl := words_len ⟨i, hi⟩
  have wl : (WORDS.getD i "").length ≤ 7 := wl
  have up := fun a : Fin 9 => up_len ⟨i, hi⟩ a
  have s9 : (100 : Nat) ≤ sizeLine := by decide
  have s1000 : (1000 : Nat) ≤ sizeLine := by decide
  have ul : lenS (WORDS.getD i "") = some ((WORDS.getD i "").length : Int) := cIf_pos (by omega)
  have r1 := Int.emod_nonneg m1 (show (((WORDS.getD i "").length : Nat) : Int) + 1 ≠ 0 by omega)
  have r2 := Int.emod_lt_of_pos m1 (show 0 < (((WORDS.getD i "").length : Nat) : Int) + 1 by omega)
  have zm : zMod m1 ((((WORDS.getD i "").length : Nat) : Int) + 1) = some (m1 % ((((WORDS.getD i "").length : Nat) : Int) + 1)) := zMod_ok (by omega)
  obtain ⟨a, ea, ha⟩ : ∃ a : Nat, m1 % ((((WORDS.getD i "").length : Nat) : Int) + 1) = (a : Int) ∧ a < 9 := ⟨(m1 % ((((WORDS.getD i "").length : Nat) : Int) + 1)).toNat, by omega, by omega⟩
  have up := up ⟨a, ha⟩
  have up : (Txt.upper (cutS (WORDS.getD i "") (some (a : Int)) (some ((a : Int) + 1)))).length ≤ 100 := up
  have zn : zNeg 1 = some (-1) := rfl
  have awi := aw i hi
  generalize WORDS.getD i "" = W at *
  have cl := cut_len W
  have sl : W.length ≤ sizeLine := by omega
  have ct : ∀ x y : Str, x.length + y.length ≤ 1000 → catS x y = some (x ++ y) := fun x y h => cIf_pos (by omega)
  have al : ∀ x y : Str, (x ++ y).length = x.length + y.length := fun x y => PySem.Str.length_append x y
  obtain ⟨z2, ez2, lz2⟩ := lett_ok (x := m2 % 26) (by omega) (by omega)
  obtain ⟨j, ej, hj⟩ : ∃ j : Nat, m3 % 6 = (j : Int) ∧ j < 6 := ⟨(m3 % 6).toNat, by omega, by omega⟩
  have wj := words_len ⟨j, hj⟩
  have wj : (WORDS.getD j "").length ≤ 7 := wj
  have l1 : (" " : Str).length = 1 := by decide +kernel
  have k1 := cl none (some (a : Int))
  have k2 := cl (some (a : Int)) none
  have k3 := cl (some ((a : Int) + 1)) none
  have k4 := cl (some (a : Int)) (some ((a : Int) + 1))
  have c1 := ct (cutS W none (some (a : Int))) z2 (by omega)
  have c2 := ct (cutS W none (some (a : Int)) ++ z2) (cutS W (some (a : Int)) none) (by rw [al]; omega)
  have c3 := ct (cutS W none (some (a : Int))) " " (by omega)
  have c4 := ct (cutS W none (some (a : Int)) ++ " ") (cutS W (some (a : Int)) none) (by rw [al]; omega)
  have uf : upperF (cutS W (some (a : Int)) (some ((a : Int) + 1))) = some (Txt.upper (cutS W (some (a : Int)) (some ((a : Int) + 1)))) := cIf_pos (by omega)
  have c5 := ct (cutS W none (some (a : Int))) (Txt.upper (cutS W (some (a : Int)) (some ((a : Int) + 1)))) (by omega)
  have c6 := ct (cutS W none (some (a : Int)) ++ Txt.upper (cutS W (some (a : Int)) (some ((a : Int) + 1)))) (cutS W (some ((a : Int) + 1)) none) (by rw [al]; omega)
  have c7 := ct W (WORDS.getD j "") (by omega)
  simp only [m_law_word, b_law_word, Fx.runB, Fx.xO, Fx.xA, Fx.xF, Fx.xP, Fx.xZ, Fx.yO, Fx.yA, Fx.yF, Fx.yP, Fx.yZ, Option.map_some, Option.map_none, decide_true, decide_false, Fx.dSeq, Fx.dIte, Fx.dRet, Fx.dSet, Fx.dAsg, Fx.dAug, Fx.dApp, Fx.dSetI, Fx.dIns, Fx.dSetR, Fx.dSet2, Fx.dSwapI, Fx.dPutD, Fx.dRetU, Fx.dCallU, Fx.dOrU, Fx.dIteU, Fx.dMeth, Fx.dPopI, Fx.inD, Fx.notInD, Fx.dAppR, Fx.dForRow, Fx.dFor, Fx.dBrk, Fx.dCnt, Fx.d1, Fx.d2, Fx.dV, Fx.dC, Fx.dAnd, Fx.dOr, Fx.dNot, Fx.dIf, Fx.dCall, Fx.dCallX, Fx.dPair, Fx.dCons, Fx.dCut, Fx.dStep, Fx.dNx, Fx.lcD, Fx.lcS, Fx.wp_bind, Fx.wp_ok, Fx.wp_ite, Fx.wp_nox, Fx.ofO_some, Fx.ofO_none, Fx.Rs.bind_ok, Fx.nox_ok, Fx.iI, Fx.eqF, Fx.neF, Fx.stN, Fx.stL, Fx.stLc, Fx.stLn, Fx.stC, Fx.lenF, Fx.sumF, Fx.max2F, Fx.min2F, Fx.allF, Fx.anyF, Option.bind_some, if_true, if_false, Bool.not_eq_true, decide_eq_true_eq, Bool.not_true, Bool.not_false, Bool.false_eq_true, reduceIte, Fx.zMod_ok, Int.reduceLT, Int.reduceLE, Int.reduceNeg, and_self, true_and, dCutS, words_eq, ei, awi, d6, e1, ul, zm, ea, zn, cIf_pos sl]
  by_cases q0 : c / 6 % 8 = 0
  · rw [if_pos q0]; trivial
  rw [if_neg q0]
  by_cases q1 : c / 6 % 8 = 1
  · rw [if_pos q1]
    simp only [e2, ez2, c1, c2, Fx.runB, Fx.xO, Fx.xA, Fx.xF, Fx.xP, Fx.xZ, Fx.yO, Fx.yA, Fx.yF, Fx.yP, Fx.yZ, Option.map_some, Option.map_none, decide_true, decide_false, Fx.dSeq, Fx.dIte, Fx.dRet, Fx.dSet, Fx.dAsg, Fx.dAug, Fx.dApp, Fx.dSetI, Fx.dIns, Fx.dSetR, Fx.dSet2, Fx.dSwapI, Fx.dPutD, Fx.dRetU, Fx.dCallU, Fx.dOrU, Fx.dIteU, Fx.dMeth, Fx.dPopI, Fx.inD, Fx.notInD, Fx.dAppR, Fx.dForRow, Fx.dFor, Fx.dBrk, Fx.dCnt, Fx.d1, Fx.d2, Fx.dV, Fx.dC, Fx.dAnd, Fx.dOr, Fx.dNot, Fx.dIf, Fx.dCall, Fx.dCallX, Fx.dPair, Fx.dCons, Fx.dCut, Fx.dStep, Fx.dNx, Fx.lcD, Fx.lcS, Fx.wp_bind, Fx.wp_ok, Fx.wp_ite, Fx.wp_nox, Fx.ofO_some, Fx.ofO_none, Fx.Rs.bind_ok, Fx.nox_ok, Fx.iI, Fx.eqF, Fx.neF, Fx.stN, Fx.stL, Fx.stLc, Fx.stLn, Fx.stC, Fx.lenF, Fx.sumF, Fx.max2F, Fx.min2F, Fx.allF, Fx.anyF, Option.bind_some, if_true, if_false, Bool.not_eq_true, decide_eq_true_eq, Bool.not_true, Bool.not_false, Bool.false_eq_true, reduceIte, Fx.zMod_ok, Int.reduceLT, Int.reduceLE, Int.reduceNeg, and_self, true_and]
  rw [if_neg q1]
  by_cases q2 : c / 6 % 8 = 2
  · rw [if_pos q2]
    simp only [c3, c4, Fx.runB, Fx.xO, Fx.xA, Fx.xF, Fx.xP, Fx.xZ, Fx.yO, Fx.yA, Fx.yF, Fx.yP, Fx.yZ, Option.map_some, Option.map_none, decide_true, decide_false, Fx.dSeq, Fx.dIte, Fx.dRet, Fx.dSet, Fx.dAsg, Fx.dAug, Fx.dApp, Fx.dSetI, Fx.dIns, Fx.dSetR, Fx.dSet2, Fx.dSwapI, Fx.dPutD, Fx.dRetU, Fx.dCallU, Fx.dOrU, Fx.dIteU, Fx.dMeth, Fx.dPopI, Fx.inD, Fx.notInD, Fx.dAppR, Fx.dForRow, Fx.dFor, Fx.dBrk, Fx.dCnt, Fx.d1, Fx.d2, Fx.dV, Fx.dC, Fx.dAnd, Fx.dOr, Fx.dNot, Fx.dIf, Fx.dCall, Fx.dCallX, Fx.dPair, Fx.dCons, Fx.dCut, Fx.dStep, Fx.dNx, Fx.lcD, Fx.lcS, Fx.wp_bind, Fx.wp_ok, Fx.wp_ite, Fx.wp_nox, Fx.ofO_some, Fx.ofO_none, Fx.Rs.bind_ok, Fx.nox_ok, Fx.iI, Fx.eqF, Fx.neF, Fx.stN, Fx.stL, Fx.stLc, Fx.stLn, Fx.stC, Fx.lenF, Fx.sumF, Fx.max2F, Fx.min2F, Fx.allF, Fx.anyF, Option.bind_some, if_true, if_false, Bool.not_eq_true, decide_eq_true_eq, Bool.not_true, Bool.not_false, Bool.false_eq_true, reduceIte, Fx.zMod_ok, Int.reduceLT, Int.reduceLE, Int.reduceNeg, and_self, true_and]
  rw [if_neg q2]
  by_cases q3 : c / 6 % 8 = 3
  · rw [if_pos q3]
    simp only [uf, c5, c6, Fx.runB, Fx.xO, Fx.xA, Fx.xF, Fx.xP, Fx.xZ, Fx.yO, Fx.yA, Fx.yF, Fx.yP, Fx.yZ, Option.map_some, Option.map_none, decide_true, decide_false, Fx.dSeq, Fx.dIte, Fx.dRet, Fx.dSet, Fx.dAsg, Fx.dAug, Fx.dApp, Fx.dSetI, Fx.dIns, Fx.dSetR, Fx.dSet2, Fx.dSwapI, Fx.dPutD, Fx.dRetU, Fx.dCallU, Fx.dOrU, Fx.dIteU, Fx.dMeth, Fx.dPopI, Fx.inD, Fx.notInD, Fx.dAppR, Fx.dForRow, Fx.dFor, Fx.dBrk, Fx.dCnt, Fx.d1, Fx.d2, Fx.dV, Fx.dC, Fx.dAnd, Fx.dOr, Fx.dNot, Fx.dIf, Fx.dCall, Fx.dCallX, Fx.dPair, Fx.dCons, Fx.dCut, Fx.dStep, Fx.dNx, Fx.lcD, Fx.lcS, Fx.wp_bind, Fx.wp_ok, Fx.wp_ite, Fx.wp_nox, Fx.ofO_some, Fx.ofO_none, Fx.Rs.bind_ok, Fx.nox_ok, Fx.iI, Fx.eqF, Fx.neF, Fx.stN, Fx.stL, Fx.stLc, Fx.stLn, Fx.stC, Fx.lenF, Fx.sumF, Fx.max2F, Fx.min2F, Fx.allF, Fx.anyF, Option.bind_some, if_true, if_false, Bool.not_eq_true, decide_eq_true_eq, Bool.not_true, Bool.not_false, Bool.false_eq_true, reduceIte, Fx.zMod_ok, Int.reduceLT, Int.reduceLE, Int.reduceNeg, and_self, true_and]
  rw [if_neg q3]
  by_cases q4 : c / 6 % 8 = 4
  · rw [if_pos q4]
    simp only [e3, ej, aw j hj, c7, Fx.runB, Fx.xO, Fx.xA, Fx.xF, Fx.xP, Fx.xZ, Fx.yO, Fx.yA, Fx.yF, Fx.yP, Fx.yZ, Option.map_some, Option.map_none, decide_true, decide_false, Fx.dSeq, Fx.dIte, Fx.dRet, Fx.dSet, Fx.dAsg, Fx.dAug, Fx.dApp, Fx.dSetI, Fx.dIns, Fx.dSetR, Fx.dSet2, Fx.dSwapI, Fx.dPutD, Fx.dRetU, Fx.dCallU, Fx.dOrU, Fx.dIteU, Fx.dMeth, Fx.dPopI, Fx.inD, Fx.notInD, Fx.dAppR, Fx.dForRow, Fx.dFor, Fx.dBrk, Fx.dCnt, Fx.d1, Fx.d2, Fx.dV, Fx.dC, Fx.dAnd, Fx.dOr, Fx.dNot, Fx.dIf, Fx.dCall, Fx.dCallX, Fx.dPair, Fx.dCons, Fx.dCut, Fx.dStep, Fx.dNx, Fx.lcD, Fx.lcS, Fx.wp_bind, Fx.wp_ok, Fx.wp_ite, Fx.wp_nox, Fx.ofO_some, Fx.ofO_none, Fx.Rs.bind_ok, Fx.nox_ok, Fx.iI, Fx.eqF, Fx.neF, Fx.stN, Fx.stL, Fx.stLc, Fx.stLn, Fx.stC, Fx.lenF, Fx.sumF, Fx.max2F, Fx.min2F, Fx.allF, Fx.anyF, Option.bind_some, if_true, if_false, Bool.not_eq_true, decide_eq_true_eq, Bool.not_true, Bool.not_false, Bool.false_eq_true, reduceIte, Fx.zMod_ok, Int.reduceLT, Int.reduceLE, Int.reduceNeg, and_self, true_and]
  rw [if_neg q4]
  by_cases q5 : c / 6 % 8 = 5
  · rw [if_pos q5]
    simp only [e4, Fx.runB, Fx.xO, Fx.xA, Fx.xF, Fx.xP, Fx.xZ, Fx.yO, Fx.yA, Fx.yF, Fx.yP, Fx.yZ, Option.map_some, Option.map_none, decide_true, decide_false, Fx.dSeq, Fx.dIte, Fx.dRet, Fx.dSet, Fx.dAsg, Fx.dAug, Fx.dApp, Fx.dSetI, Fx.dIns, Fx.dSetR, Fx.dSet2, Fx.dSwapI, Fx.dPutD, Fx.dRetU, Fx.dCallU, Fx.dOrU, Fx.dIteU, Fx.dMeth, Fx.dPopI, Fx.inD, Fx.notInD, Fx.dAppR, Fx.dForRow, Fx.dFor, Fx.dBrk, Fx.dCnt, Fx.d1, Fx.d2, Fx.dV, Fx.dC, Fx.dAnd, Fx.dOr, Fx.dNot, Fx.dIf, Fx.dCall, Fx.dCallX, Fx.dPair, Fx.dCons, Fx.dCut, Fx.dStep, Fx.dNx, Fx.lcD, Fx.lcS, Fx.wp_bind, Fx.wp_ok, Fx.wp_ite, Fx.wp_nox, Fx.ofO_some, Fx.ofO_none, Fx.Rs.bind_ok, Fx.nox_ok, Fx.iI, Fx.eqF, Fx.neF, Fx.stN, Fx.stL, Fx.stLc, Fx.stLn, Fx.stC, Fx.lenF, Fx.sumF, Fx.max2F, Fx.min2F, Fx.allF, Fx.anyF, Option.bind_some, if_true, if_false, Bool.not_eq_true, decide_eq_true_eq, Bool.not_true, Bool.not_false, Bool.false_eq_true, reduceIte, Fx.zMod_ok, Int.reduceLT, Int.reduceLE, Int.reduceNeg, and_self, true_and]
    refine wp_some (rngF_int (by omega) (by omega) (by omega) (by omega)) ?_
    refine wp_lcR_ex (P := fun z : Str => z.length = 1) (fun x hx => ?_) (fun ys ly py => ?_)
    · have hx := mem_rng.mp hx
      have sx : Sz 7 x := by unfold Sz; omega
      have zx := zMul_ok (sx.mulOk sx (by decide) (by decide) (by decide))
      obtain ⟨v, ev, v0, v1⟩ := mix_ok (c := c + x * x) (k := x) (Sz.add hc ((sx.mul sx).mono (by decide))) (by omega)
      obtain ⟨z, ez, lz⟩ := lett_ok (x := v % 26) (by omega) (by omega)
      simp only [Fx.runB, Fx.xO, Fx.xA, Fx.xF, Fx.xP, Fx.xZ, Fx.yO, Fx.yA, Fx.yF, Fx.yP, Fx.yZ, Option.map_some, Option.map_none, decide_true, decide_false, Fx.dSeq, Fx.dIte, Fx.dRet, Fx.dSet, Fx.dAsg, Fx.dAug, Fx.dApp, Fx.dSetI, Fx.dIns, Fx.dSetR, Fx.dSet2, Fx.dSwapI, Fx.dPutD, Fx.dRetU, Fx.dCallU, Fx.dOrU, Fx.dIteU, Fx.dMeth, Fx.dPopI, Fx.inD, Fx.notInD, Fx.dAppR, Fx.dForRow, Fx.dFor, Fx.dBrk, Fx.dCnt, Fx.d1, Fx.d2, Fx.dV, Fx.dC, Fx.dAnd, Fx.dOr, Fx.dNot, Fx.dIf, Fx.dCall, Fx.dCallX, Fx.dPair, Fx.dCons, Fx.dCut, Fx.dStep, Fx.dNx, Fx.lcD, Fx.lcS, Fx.wp_bind, Fx.wp_ok, Fx.wp_ite, Fx.wp_nox, Fx.ofO_some, Fx.ofO_none, Fx.Rs.bind_ok, Fx.nox_ok, Fx.iI, Fx.eqF, Fx.neF, Fx.stN, Fx.stL, Fx.stLc, Fx.stLn, Fx.stC, Fx.lenF, Fx.sumF, Fx.max2F, Fx.min2F, Fx.allF, Fx.anyF, Option.bind_some, if_true, if_false, Bool.not_eq_true, decide_eq_true_eq, Bool.not_true, Bool.not_false, Bool.false_eq_true, reduceIte, Fx.zMod_ok, Int.reduceLT, Int.reduceLE, Int.reduceNeg, and_self, true_and, zx, ev, ez]
      exact ⟨z, rfl, lz⟩
    · have hly : ys.length ≤ 10 := by rw [ly, rng_len]; omega
      have l0 : ("" : Str).length = 0 := by decide +kernel
      have jn : joinF "" ys = some (Txt.join "" ys) := cIf_pos (by rw [sum_ones py, l0]; omega)
      simp only [jn, Fx.runB, Fx.xO, Fx.xA, Fx.xF, Fx.xP, Fx.xZ, Fx.yO, Fx.yA, Fx.yF, Fx.yP, Fx.yZ, Option.map_some, Option.map_none, decide_true, decide_false, Fx.dSeq, Fx.dIte, Fx.dRet, Fx.dSet, Fx.dAsg, Fx.dAug, Fx.dApp, Fx.dSetI, Fx.dIns, Fx.dSetR, Fx.dSet2, Fx.dSwapI, Fx.dPutD, Fx.dRetU, Fx.dCallU, Fx.dOrU, Fx.dIteU, Fx.dMeth, Fx.dPopI, Fx.inD, Fx.notInD, Fx.dAppR, Fx.dForRow, Fx.dFor, Fx.dBrk, Fx.dCnt, Fx.d1, Fx.d2, Fx.dV, Fx.dC, Fx.dAnd, Fx.dOr, Fx.dNot, Fx.dIf, Fx.dCall, Fx.dCallX, Fx.dPair, Fx.dCons, Fx.dCut, Fx.dStep, Fx.dNx, Fx.lcD, Fx.lcS, Fx.wp_bind, Fx.wp_ok, Fx.wp_ite, Fx.wp_nox, Fx.ofO_some, Fx.ofO_none, Fx.Rs.bind_ok, Fx.nox_ok, Fx.iI, Fx.eqF, Fx.neF, Fx.stN, Fx.stL, Fx.stLc, Fx.stLn, Fx.stC, Fx.lenF, Fx.sumF, Fx.max2F, Fx.min2F, Fx.allF, Fx.anyF, Option.bind_some, if_true, if_false, Bool.not_eq_true, decide_eq_true_eq, Bool.not_true, Bool.not_false, Bool.false_eq_true, reduceIte, Fx.zMod_ok, Int.reduceLT, Int.reduceLE, Int.reduceNeg, and_self, true_and]
  rw [if_neg q5]
  try trivial
theorem holds (ns : List Int) (hl : ns.length ≤ 63) (hb : ∀ z ∈ ns, PySem.Builtin.Int.intBits z ≤ 1048576) : Gen.m_law (ns, ()) = Fx.Rs.ok true := by
  refine wp.eq ?_
  have hs : ∀ z ∈ ns, Sz 1048576 z := fun z h => Sz.of_bits (hb z h)
  have made : ∀ j : Nat, j < 6 → atI ([0, 1, 2, 3, 4, 5] : List Nat) (j : Int) = some j := fun j hj => by
    have h : j = 0 ∨ j = 1 ∨ j = 2 ∨ j = 3 ∨ j = 4 ∨ j = 5 := by omega
    rcases h with rfl | rfl | rfl | rfl | rfl | rfl <;> rfl
  simp only [m_law, b_law, Fx.runB, Fx.xO, Fx.xA, Fx.xF, Fx.xP, Fx.xZ, Fx.yO, Fx.yA, Fx.yF, Fx.yP, Fx.yZ, Option.map_some, Option.map_none, decide_true, decide_false, Fx.dSeq, Fx.dIte, Fx.dRet, Fx.dSet, Fx.dAsg, Fx.dAug, Fx.dApp, Fx.dSetI, Fx.dIns, Fx.dSetR, Fx.dSet2, Fx.dSwapI, Fx.dPutD, Fx.dRetU, Fx.dCallU, Fx.dOrU, Fx.dIteU, Fx.dMeth, Fx.dPopI, Fx.inD, Fx.notInD, Fx.dAppR, Fx.dForRow, Fx.dFor, Fx.dBrk, Fx.dCnt, Fx.d1, Fx.d2, Fx.dV, Fx.dC, Fx.dAnd, Fx.dOr, Fx.dNot, Fx.dIf, Fx.dCall, Fx.dCallX, Fx.dPair, Fx.dCons, Fx.dCut, Fx.dStep, Fx.dNx, Fx.lcD, Fx.lcS, Fx.wp_bind, Fx.wp_ok, Fx.wp_ite, Fx.wp_nox, Fx.ofO_some, Fx.ofO_none, Fx.Rs.bind_ok, Fx.nox_ok, Fx.iI, Fx.eqF, Fx.neF, Fx.stN, Fx.stL, Fx.stLc, Fx.stLn, Fx.stC, Fx.lenF, Fx.sumF, Fx.max2F, Fx.min2F, Fx.allF, Fx.anyF, Option.bind_some, if_true, if_false, Bool.not_eq_true, decide_eq_true_eq, Bool.not_true, Bool.not_false, Bool.false_eq_true, reduceIte, Fx.zMod_ok, Int.reduceLT, Int.reduceLE, Int.reduceNeg, and_self, true_and]
  refine wp.mono (Q := fun fl => ∃ x2 x3 x4, fl = .nx (some ns, some [0, 1, 2, 3, 4, 5], x2, x3, x4, none, none, ())) ?_ ?_
  · simp only [c_law_1, Fx.runB, Fx.xO, Fx.xA, Fx.xF, Fx.xP, Fx.xZ, Fx.yO, Fx.yA, Fx.yF, Fx.yP, Fx.yZ, Option.map_some, Option.map_none, decide_true, decide_false, Fx.dSeq, Fx.dIte, Fx.dRet, Fx.dSet, Fx.dAsg, Fx.dAug, Fx.dApp, Fx.dSetI, Fx.dIns, Fx.dSetR, Fx.dSet2, Fx.dSwapI, Fx.dPutD, Fx.dRetU, Fx.dCallU, Fx.dOrU, Fx.dIteU, Fx.dMeth, Fx.dPopI, Fx.inD, Fx.notInD, Fx.dAppR, Fx.dForRow, Fx.dFor, Fx.dBrk, Fx.dCnt, Fx.d1, Fx.d2, Fx.dV, Fx.dC, Fx.dAnd, Fx.dOr, Fx.dNot, Fx.dIf, Fx.dCall, Fx.dCallX, Fx.dPair, Fx.dCons, Fx.dCut, Fx.dStep, Fx.dNx, Fx.lcD, Fx.lcS, Fx.wp_bind, Fx.wp_ok, Fx.wp_ite, Fx.wp_nox, Fx.ofO_some, Fx.ofO_none, Fx.Rs.bind_ok, Fx.nox_ok, Fx.iI, Fx.eqF, Fx.neF, Fx.stN, Fx.stL, Fx.stLc, Fx.stLn, Fx.stC, Fx.lenF, Fx.sumF, Fx.max2F, Fx.min2F, Fx.allF, Fx.anyF, Option.bind_some, if_true, if_false, Bool.not_eq_true, decide_eq_true_eq, Bool.not_true, Bool.not_false, Bool.false_eq_true, reduceIte, Fx.zMod_ok, Int.reduceLT, Int.reduceLE, Int.reduceNeg, and_self, true_and]
    refine wp_some (rngF_nat (n := 2) (by omega)) ?_
    refine wp_forR (fun d E => ∃ x2 x3 x4, E = (some ns, some [0, 1, 2, 3, 4, 5], x2, x3, x4, none, none, ())) _ _ ⟨_, _, _, rfl⟩ ?_ ?_
    · rintro k y E hy ⟨x2, x3, x4, rfl⟩
      obtain ⟨rfl, hk⟩ := rng_i hy
      refine ⟨_, rfl, ?_⟩
      rw [Int.zero_add]
      have n6 : ((([0, 1, 2, 3, 4, 5] : List Nat).length : Nat) : Int) = 6 := rfl
      simp only [Fx.runB, Fx.xO, Fx.xA, Fx.xF, Fx.xP, Fx.xZ, Fx.yO, Fx.yA, Fx.yF, Fx.yP, Fx.yZ, Option.map_some, Option.map_none, decide_true, decide_false, Fx.dSeq, Fx.dIte, Fx.dRet, Fx.dSet, Fx.dAsg, Fx.dAug, Fx.dApp, Fx.dSetI, Fx.dIns, Fx.dSetR, Fx.dSet2, Fx.dSwapI, Fx.dPutD, Fx.dRetU, Fx.dCallU, Fx.dOrU, Fx.dIteU, Fx.dMeth, Fx.dPopI, Fx.inD, Fx.notInD, Fx.dAppR, Fx.dForRow, Fx.dFor, Fx.dBrk, Fx.dCnt, Fx.d1, Fx.d2, Fx.dV, Fx.dC, Fx.dAnd, Fx.dOr, Fx.dNot, Fx.dIf, Fx.dCall, Fx.dCallX, Fx.dPair, Fx.dCons, Fx.dCut, Fx.dStep, Fx.dNx, Fx.lcD, Fx.lcS, Fx.wp_bind, Fx.wp_ok, Fx.wp_ite, Fx.wp_nox, Fx.ofO_some, Fx.ofO_none, Fx.Rs.bind_ok, Fx.nox_ok, Fx.iI, Fx.eqF, Fx.neF, Fx.stN, Fx.stL, Fx.stLc, Fx.stLn, Fx.stC, Fx.lenF, Fx.sumF, Fx.max2F, Fx.min2F, Fx.allF, Fx.anyF, Option.bind_some, if_true, if_false, Bool.not_eq_true, decide_eq_true_eq, Bool.not_true, Bool.not_false, Bool.false_eq_true, reduceIte, Fx.zMod_ok, Int.reduceLT, Int.reduceLE, Int.reduceNeg, and_self, true_and, kinds_eq, n6, ne_eq, not_true]
      refine wp.mono (Q := fun fl => ∃ x4, fl = .nx (some ns, some [0, 1, 2, 3, 4, 5], some (k : Int), some [0, 1, 2, 3, 4, 5], x4, none, none, ())) ?_ ?_
      · simp only [c_law_3, Fx.runB, Fx.xO, Fx.xA, Fx.xF, Fx.xP, Fx.xZ, Fx.yO, Fx.yA, Fx.yF, Fx.yP, Fx.yZ, Option.map_some, Option.map_none, decide_true, decide_false, Fx.dSeq, Fx.dIte, Fx.dRet, Fx.dSet, Fx.dAsg, Fx.dAug, Fx.dApp, Fx.dSetI, Fx.dIns, Fx.dSetR, Fx.dSet2, Fx.dSwapI, Fx.dPutD, Fx.dRetU, Fx.dCallU, Fx.dOrU, Fx.dIteU, Fx.dMeth, Fx.dPopI, Fx.inD, Fx.notInD, Fx.dAppR, Fx.dForRow, Fx.dFor, Fx.dBrk, Fx.dCnt, Fx.d1, Fx.d2, Fx.dV, Fx.dC, Fx.dAnd, Fx.dOr, Fx.dNot, Fx.dIf, Fx.dCall, Fx.dCallX, Fx.dPair, Fx.dCons, Fx.dCut, Fx.dStep, Fx.dNx, Fx.lcD, Fx.lcS, Fx.wp_bind, Fx.wp_ok, Fx.wp_ite, Fx.wp_nox, Fx.ofO_some, Fx.ofO_none, Fx.Rs.bind_ok, Fx.nox_ok, Fx.iI, Fx.eqF, Fx.neF, Fx.stN, Fx.stL, Fx.stLc, Fx.stLn, Fx.stC, Fx.lenF, Fx.sumF, Fx.max2F, Fx.min2F, Fx.allF, Fx.anyF, Option.bind_some, if_true, if_false, Bool.not_eq_true, decide_eq_true_eq, Bool.not_true, Bool.not_false, Bool.false_eq_true, reduceIte, Fx.zMod_ok, Int.reduceLT, Int.reduceLE, Int.reduceNeg, and_self, true_and]
        refine wp_some (rngF_nat (n := 6) (by omega)) ?_
        refine wp_forR (fun d E => ∃ x4, E = (some ns, some [0, 1, 2, 3, 4, 5], some (k : Int), some [0, 1, 2, 3, 4, 5], x4, none, none, ())) _ _ ⟨_, rfl⟩ ?_ ?_
        · rintro j y E hy ⟨x4, rfl⟩
          obtain ⟨rfl, hj⟩ := rng_i hy
          refine ⟨_, rfl, ?_⟩
          rw [Int.zero_add]
          simp only [Fx.runB, Fx.xO, Fx.xA, Fx.xF, Fx.xP, Fx.xZ, Fx.yO, Fx.yA, Fx.yF, Fx.yP, Fx.yZ, Option.map_some, Option.map_none, decide_true, decide_false, Fx.dSeq, Fx.dIte, Fx.dRet, Fx.dSet, Fx.dAsg, Fx.dAug, Fx.dApp, Fx.dSetI, Fx.dIns, Fx.dSetR, Fx.dSet2, Fx.dSwapI, Fx.dPutD, Fx.dRetU, Fx.dCallU, Fx.dOrU, Fx.dIteU, Fx.dMeth, Fx.dPopI, Fx.inD, Fx.notInD, Fx.dAppR, Fx.dForRow, Fx.dFor, Fx.dBrk, Fx.dCnt, Fx.d1, Fx.d2, Fx.dV, Fx.dC, Fx.dAnd, Fx.dOr, Fx.dNot, Fx.dIf, Fx.dCall, Fx.dCallX, Fx.dPair, Fx.dCons, Fx.dCut, Fx.dStep, Fx.dNx, Fx.lcD, Fx.lcS, Fx.wp_bind, Fx.wp_ok, Fx.wp_ite, Fx.wp_nox, Fx.ofO_some, Fx.ofO_none, Fx.Rs.bind_ok, Fx.nox_ok, Fx.iI, Fx.eqF, Fx.neF, Fx.stN, Fx.stL, Fx.stLc, Fx.stLn, Fx.stC, Fx.lenF, Fx.sumF, Fx.max2F, Fx.min2F, Fx.allF, Fx.anyF, Option.bind_some, if_true, if_false, Bool.not_eq_true, decide_eq_true_eq, Bool.not_true, Bool.not_false, Bool.false_eq_true, reduceIte, Fx.zMod_ok, Int.reduceLT, Int.reduceLE, Int.reduceNeg, and_self, true_and, made j hj, is_kind_ok j hj]
          exact ⟨_, rfl⟩
        · rintro E ⟨x4, rfl⟩
          exact ⟨_, rfl⟩
      · rintro _ ⟨x4, rfl⟩
        have z2 : zMul 2 (k : Int) = some (2 * (k : Int)) := zMul_ok ((sz_small (by omega)).mulOk (sz_small (by omega)) (by decide) (by decide) (by decide))
        have hk' : k = 0 ∨ k = 1 := by omega
        have ix : ixN ([0, 1, 2, 3, 4, 5] : List Nat).length (2 * (k : Int)) = some (2 * k) := by
          have := ixN_pos (n := 6) (i := 2 * (k : Int)) (by omega) (by omega)
          show ixN 6 (2 * (k : Int)) = _
          rw [this]
          rcases hk' with rfl | rfl <;> rfl
        simp only [t_law_3, Fx.runB, Fx.xO, Fx.xA, Fx.xF, Fx.xP, Fx.xZ, Fx.yO, Fx.yA, Fx.yF, Fx.yP, Fx.yZ, Option.map_some, Option.map_none, decide_true, decide_false, Fx.dSeq, Fx.dIte, Fx.dRet, Fx.dSet, Fx.dAsg, Fx.dAug, Fx.dApp, Fx.dSetI, Fx.dIns, Fx.dSetR, Fx.dSet2, Fx.dSwapI, Fx.dPutD, Fx.dRetU, Fx.dCallU, Fx.dOrU, Fx.dIteU, Fx.dMeth, Fx.dPopI, Fx.inD, Fx.notInD, Fx.dAppR, Fx.dForRow, Fx.dFor, Fx.dBrk, Fx.dCnt, Fx.d1, Fx.d2, Fx.dV, Fx.dC, Fx.dAnd, Fx.dOr, Fx.dNot, Fx.dIf, Fx.dCall, Fx.dCallX, Fx.dPair, Fx.dCons, Fx.dCut, Fx.dStep, Fx.dNx, Fx.lcD, Fx.lcS, Fx.wp_bind, Fx.wp_ok, Fx.wp_ite, Fx.wp_nox, Fx.ofO_some, Fx.ofO_none, Fx.Rs.bind_ok, Fx.nox_ok, Fx.iI, Fx.eqF, Fx.neF, Fx.stN, Fx.stL, Fx.stLc, Fx.stLn, Fx.stC, Fx.lenF, Fx.sumF, Fx.max2F, Fx.min2F, Fx.allF, Fx.anyF, Option.bind_some, if_true, if_false, Bool.not_eq_true, decide_eq_true_eq, Bool.not_true, Bool.not_false, Bool.false_eq_true, reduceIte, Fx.zMod_ok, Int.reduceLT, Int.reduceLE, Int.reduceNeg, and_self, true_and, z2, ix]
        have a0 : ∃ v, atI (([0, 1, 2, 3, 4, 5] : List Nat).eraseIdx (2 * k)) 0 = some v := by
          rcases hk' with rfl | rfl
          · exact ⟨1, rfl⟩
          · exact ⟨0, rfl⟩
        obtain ⟨v, hv⟩ := a0
        have ll : (([0, 1, 2, 3, 4, 5] : List Nat).eraseIdx (2 * k)).length < sizeLine := Nat.lt_of_le_of_lt (List.length_eraseIdx_le _ _) (by decide)
        simp only [hv, Fx.runB, Fx.xO, Fx.xA, Fx.xF, Fx.xP, Fx.xZ, Fx.yO, Fx.yA, Fx.yF, Fx.yP, Fx.yZ, Option.map_some, Option.map_none, decide_true, decide_false, Fx.dSeq, Fx.dIte, Fx.dRet, Fx.dSet, Fx.dAsg, Fx.dAug, Fx.dApp, Fx.dSetI, Fx.dIns, Fx.dSetR, Fx.dSet2, Fx.dSwapI, Fx.dPutD, Fx.dRetU, Fx.dCallU, Fx.dOrU, Fx.dIteU, Fx.dMeth, Fx.dPopI, Fx.inD, Fx.notInD, Fx.dAppR, Fx.dForRow, Fx.dFor, Fx.dBrk, Fx.dCnt, Fx.d1, Fx.d2, Fx.dV, Fx.dC, Fx.dAnd, Fx.dOr, Fx.dNot, Fx.dIf, Fx.dCall, Fx.dCallX, Fx.dPair, Fx.dCons, Fx.dCut, Fx.dStep, Fx.dNx, Fx.lcD, Fx.lcS, Fx.wp_bind, Fx.wp_ok, Fx.wp_ite, Fx.wp_nox, Fx.ofO_some, Fx.ofO_none, Fx.Rs.bind_ok, Fx.nox_ok, Fx.iI, Fx.eqF, Fx.neF, Fx.stN, Fx.stL, Fx.stLc, Fx.stLn, Fx.stC, Fx.lenF, Fx.sumF, Fx.max2F, Fx.min2F, Fx.allF, Fx.anyF, Option.bind_some, if_true, if_false, Bool.not_eq_true, decide_eq_true_eq, Bool.not_true, Bool.not_false, Bool.false_eq_true, reduceIte, Fx.zMod_ok, Int.reduceLT, Int.reduceLE, Int.reduceNeg, and_self, true_and]
        rw [cIf_pos ll]
        exact ⟨_, _, _, rfl⟩
    · rintro E ⟨x2, x3, x4, rfl⟩
      exact ⟨_, _, _, rfl⟩
  rintro _ ⟨x2, x3, x4, rfl⟩
  simp only [t_law_1, Fx.runB, Fx.xO, Fx.xA, Fx.xF, Fx.xP, Fx.xZ, Fx.yO, Fx.yA, Fx.yF, Fx.yP, Fx.yZ, Option.map_some, Option.map_none, decide_true, decide_false, Fx.dSeq, Fx.dIte, Fx.dRet, Fx.dSet, Fx.dAsg, Fx.dAug, Fx.dApp, Fx.dSetI, Fx.dIns, Fx.dSetR, Fx.dSet2, Fx.dSwapI, Fx.dPutD, Fx.dRetU, Fx.dCallU, Fx.dOrU, Fx.dIteU, Fx.dMeth, Fx.dPopI, Fx.inD, Fx.notInD, Fx.dAppR, Fx.dForRow, Fx.dFor, Fx.dBrk, Fx.dCnt, Fx.d1, Fx.d2, Fx.dV, Fx.dC, Fx.dAnd, Fx.dOr, Fx.dNot, Fx.dIf, Fx.dCall, Fx.dCallX, Fx.dPair, Fx.dCons, Fx.dCut, Fx.dStep, Fx.dNx, Fx.lcD, Fx.lcS, Fx.wp_bind, Fx.wp_ok, Fx.wp_ite, Fx.wp_nox, Fx.ofO_some, Fx.ofO_none, Fx.Rs.bind_ok, Fx.nox_ok, Fx.iI, Fx.eqF, Fx.neF, Fx.stN, Fx.stL, Fx.stLc, Fx.stLn, Fx.stC, Fx.lenF, Fx.sumF, Fx.max2F, Fx.min2F, Fx.allF, Fx.anyF, Option.bind_some, if_true, if_false, Bool.not_eq_true, decide_eq_true_eq, Bool.not_true, Bool.not_false, Bool.false_eq_true, reduceIte, Fx.zMod_ok, Int.reduceLT, Int.reduceLE, Int.reduceNeg, and_self, true_and]
  refine wp.mono (Q := fun fl => ∃ E, fl = .nx E) ?_ ?_
  · simp only [c_law_5, Fx.runB, Fx.xO, Fx.xA, Fx.xF, Fx.xP, Fx.xZ, Fx.yO, Fx.yA, Fx.yF, Fx.yP, Fx.yZ, Option.map_some, Option.map_none, decide_true, decide_false, Fx.dSeq, Fx.dIte, Fx.dRet, Fx.dSet, Fx.dAsg, Fx.dAug, Fx.dApp, Fx.dSetI, Fx.dIns, Fx.dSetR, Fx.dSet2, Fx.dSwapI, Fx.dPutD, Fx.dRetU, Fx.dCallU, Fx.dOrU, Fx.dIteU, Fx.dMeth, Fx.dPopI, Fx.inD, Fx.notInD, Fx.dAppR, Fx.dForRow, Fx.dFor, Fx.dBrk, Fx.dCnt, Fx.d1, Fx.d2, Fx.dV, Fx.dC, Fx.dAnd, Fx.dOr, Fx.dNot, Fx.dIf, Fx.dCall, Fx.dCallX, Fx.dPair, Fx.dCons, Fx.dCut, Fx.dStep, Fx.dNx, Fx.lcD, Fx.lcS, Fx.wp_bind, Fx.wp_ok, Fx.wp_ite, Fx.wp_nox, Fx.ofO_some, Fx.ofO_none, Fx.Rs.bind_ok, Fx.nox_ok, Fx.iI, Fx.eqF, Fx.neF, Fx.stN, Fx.stL, Fx.stLc, Fx.stLn, Fx.stC, Fx.lenF, Fx.sumF, Fx.max2F, Fx.min2F, Fx.allF, Fx.anyF, Option.bind_some, if_true, if_false, Bool.not_eq_true, decide_eq_true_eq, Bool.not_true, Bool.not_false, Bool.false_eq_true, reduceIte, Fx.zMod_ok, Int.reduceLT, Int.reduceLE, Int.reduceNeg, and_self, true_and]
    have ca : catF [36] (cutF none (some 63) ns) = some ([36] ++ cutF none (some 63) ns) := catF_ok (by
      have : (cutF none (some 63) ns).length ≤ ns.length := by
        unfold cutF
        rw [List.length_take, List.length_drop]
        omega
      show 1 + _ ≤ _
      omega)
    simp only [ca, Fx.runB, Fx.xO, Fx.xA, Fx.xF, Fx.xP, Fx.xZ, Fx.yO, Fx.yA, Fx.yF, Fx.yP, Fx.yZ, Option.map_some, Option.map_none, decide_true, decide_false, Fx.dSeq, Fx.dIte, Fx.dRet, Fx.dSet, Fx.dAsg, Fx.dAug, Fx.dApp, Fx.dSetI, Fx.dIns, Fx.dSetR, Fx.dSet2, Fx.dSwapI, Fx.dPutD, Fx.dRetU, Fx.dCallU, Fx.dOrU, Fx.dIteU, Fx.dMeth, Fx.dPopI, Fx.inD, Fx.notInD, Fx.dAppR, Fx.dForRow, Fx.dFor, Fx.dBrk, Fx.dCnt, Fx.d1, Fx.d2, Fx.dV, Fx.dC, Fx.dAnd, Fx.dOr, Fx.dNot, Fx.dIf, Fx.dCall, Fx.dCallX, Fx.dPair, Fx.dCons, Fx.dCut, Fx.dStep, Fx.dNx, Fx.lcD, Fx.lcS, Fx.wp_bind, Fx.wp_ok, Fx.wp_ite, Fx.wp_nox, Fx.ofO_some, Fx.ofO_none, Fx.Rs.bind_ok, Fx.nox_ok, Fx.iI, Fx.eqF, Fx.neF, Fx.stN, Fx.stL, Fx.stLc, Fx.stLn, Fx.stC, Fx.lenF, Fx.sumF, Fx.max2F, Fx.min2F, Fx.allF, Fx.anyF, Option.bind_some, if_true, if_false, Bool.not_eq_true, decide_eq_true_eq, Bool.not_true, Bool.not_false, Bool.false_eq_true, reduceIte, Fx.zMod_ok, Int.reduceLT, Int.reduceLE, Int.reduceNeg, and_self, true_and]
    refine wp_forL (fun d E => ∃ x5 x6, E = (some ns, some [0, 1, 2, 3, 4, 5], x2, x3, x4, x5, x6, ())) _ _ ⟨_, _, rfl⟩ ?_ ?_
    · rintro d c r E hx ⟨x5, x6, rfl⟩
      refine ⟨_, rfl, ?_⟩
      have hc : Sz 1048576 c := by
        have : c ∈ [36] ++ cutF none (some 63) ns := by rw [hx]; simp
        rcases List.mem_append.mp this with h | h
        · rw [List.mem_singleton.mp h]
          exact Sz.mono (a := 20) (by unfold Sz; decide) (by decide)
        · refine hs c ?_
          unfold cutF at h
          exact List.mem_of_mem_drop (List.mem_of_mem_take h)
      obtain ⟨w, ew⟩ := word_ok hc
      simp only [Fx.runB, Fx.xO, Fx.xA, Fx.xF, Fx.xP, Fx.xZ, Fx.yO, Fx.yA, Fx.yF, Fx.yP, Fx.yZ, Option.map_some, Option.map_none, decide_true, decide_false, Fx.dSeq, Fx.dIte, Fx.dRet, Fx.dSet, Fx.dAsg, Fx.dAug, Fx.dApp, Fx.dSetI, Fx.dIns, Fx.dSetR, Fx.dSet2, Fx.dSwapI, Fx.dPutD, Fx.dRetU, Fx.dCallU, Fx.dOrU, Fx.dIteU, Fx.dMeth, Fx.dPopI, Fx.inD, Fx.notInD, Fx.dAppR, Fx.dForRow, Fx.dFor, Fx.dBrk, Fx.dCnt, Fx.d1, Fx.d2, Fx.dV, Fx.dC, Fx.dAnd, Fx.dOr, Fx.dNot, Fx.dIf, Fx.dCall, Fx.dCallX, Fx.dPair, Fx.dCons, Fx.dCut, Fx.dStep, Fx.dNx, Fx.lcD, Fx.lcS, Fx.wp_bind, Fx.wp_ok, Fx.wp_ite, Fx.wp_nox, Fx.ofO_some, Fx.ofO_none, Fx.Rs.bind_ok, Fx.nox_ok, Fx.iI, Fx.eqF, Fx.neF, Fx.stN, Fx.stL, Fx.stLc, Fx.stLn, Fx.stC, Fx.lenF, Fx.sumF, Fx.max2F, Fx.min2F, Fx.allF, Fx.anyF, Option.bind_some, if_true, if_false, Bool.not_eq_true, decide_eq_true_eq, Bool.not_true, Bool.not_false, Bool.false_eq_true, reduceIte, Fx.zMod_ok, Int.reduceLT, Int.reduceLE, Int.reduceNeg, and_self, true_and, ew, words_eq, inF]
      by_cases h : w ∈ WORDS
      · obtain ⟨i, hi, e1, e2⟩ := kind_of_in h
        simp only [h, Fx.runB, Fx.xO, Fx.xA, Fx.xF, Fx.xP, Fx.xZ, Fx.yO, Fx.yA, Fx.yF, Fx.yP, Fx.yZ, Option.map_some, Option.map_none, decide_true, decide_false, Fx.dSeq, Fx.dIte, Fx.dRet, Fx.dSet, Fx.dAsg, Fx.dAug, Fx.dApp, Fx.dSetI, Fx.dIns, Fx.dSetR, Fx.dSet2, Fx.dSwapI, Fx.dPutD, Fx.dRetU, Fx.dCallU, Fx.dOrU, Fx.dIteU, Fx.dMeth, Fx.dPopI, Fx.inD, Fx.notInD, Fx.dAppR, Fx.dForRow, Fx.dFor, Fx.dBrk, Fx.dCnt, Fx.d1, Fx.d2, Fx.dV, Fx.dC, Fx.dAnd, Fx.dOr, Fx.dNot, Fx.dIf, Fx.dCall, Fx.dCallX, Fx.dPair, Fx.dCons, Fx.dCut, Fx.dStep, Fx.dNx, Fx.lcD, Fx.lcS, Fx.wp_bind, Fx.wp_ok, Fx.wp_ite, Fx.wp_nox, Fx.ofO_some, Fx.ofO_none, Fx.Rs.bind_ok, Fx.nox_ok, Fx.iI, Fx.eqF, Fx.neF, Fx.stN, Fx.stL, Fx.stLc, Fx.stLn, Fx.stC, Fx.lenF, Fx.sumF, Fx.max2F, Fx.min2F, Fx.allF, Fx.anyF, Option.bind_some, if_true, if_false, Bool.not_eq_true, decide_eq_true_eq, Bool.not_true, Bool.not_false, Bool.false_eq_true, reduceIte, Fx.zMod_ok, Int.reduceLT, Int.reduceLE, Int.reduceNeg, and_self, true_and, e1, e2, is_kind_ok i hi]
        exact ⟨_, _, rfl⟩
      · simp only [h, Fx.runB, Fx.xO, Fx.xA, Fx.xF, Fx.xP, Fx.xZ, Fx.yO, Fx.yA, Fx.yF, Fx.yP, Fx.yZ, Option.map_some, Option.map_none, decide_true, decide_false, Fx.dSeq, Fx.dIte, Fx.dRet, Fx.dSet, Fx.dAsg, Fx.dAug, Fx.dApp, Fx.dSetI, Fx.dIns, Fx.dSetR, Fx.dSet2, Fx.dSwapI, Fx.dPutD, Fx.dRetU, Fx.dCallU, Fx.dOrU, Fx.dIteU, Fx.dMeth, Fx.dPopI, Fx.inD, Fx.notInD, Fx.dAppR, Fx.dForRow, Fx.dFor, Fx.dBrk, Fx.dCnt, Fx.d1, Fx.d2, Fx.dV, Fx.dC, Fx.dAnd, Fx.dOr, Fx.dNot, Fx.dIf, Fx.dCall, Fx.dCallX, Fx.dPair, Fx.dCons, Fx.dCut, Fx.dStep, Fx.dNx, Fx.lcD, Fx.lcS, Fx.wp_bind, Fx.wp_ok, Fx.wp_ite, Fx.wp_nox, Fx.ofO_some, Fx.ofO_none, Fx.Rs.bind_ok, Fx.nox_ok, Fx.iI, Fx.eqF, Fx.neF, Fx.stN, Fx.stL, Fx.stLc, Fx.stLn, Fx.stC, Fx.lenF, Fx.sumF, Fx.max2F, Fx.min2F, Fx.allF, Fx.anyF, Option.bind_some, if_true, if_false, Bool.not_eq_true, decide_eq_true_eq, Bool.not_true, Bool.not_false, Bool.false_eq_true, reduceIte, Fx.zMod_ok, Int.reduceLT, Int.reduceLE, Int.reduceNeg, and_self, true_and, refused_ok (kind_of_out h)]
        exact ⟨_, _, rfl⟩
    · rintro E ⟨x5, x6, rfl⟩
      exact ⟨_, rfl⟩
  · rintro _ ⟨E, rfl⟩
    simp only [t_law_5, Fx.runB, Fx.xO, Fx.xA, Fx.xF, Fx.xP, Fx.xZ, Fx.yO, Fx.yA, Fx.yF, Fx.yP, Fx.yZ, Option.map_some, Option.map_none, decide_true, decide_false, Fx.dSeq, Fx.dIte, Fx.dRet, Fx.dSet, Fx.dAsg, Fx.dAug, Fx.dApp, Fx.dSetI, Fx.dIns, Fx.dSetR, Fx.dSet2, Fx.dSwapI, Fx.dPutD, Fx.dRetU, Fx.dCallU, Fx.dOrU, Fx.dIteU, Fx.dMeth, Fx.dPopI, Fx.inD, Fx.notInD, Fx.dAppR, Fx.dForRow, Fx.dFor, Fx.dBrk, Fx.dCnt, Fx.d1, Fx.d2, Fx.dV, Fx.dC, Fx.dAnd, Fx.dOr, Fx.dNot, Fx.dIf, Fx.dCall, Fx.dCallX, Fx.dPair, Fx.dCons, Fx.dCut, Fx.dStep, Fx.dNx, Fx.lcD, Fx.lcS, Fx.wp_bind, Fx.wp_ok, Fx.wp_ite, Fx.wp_nox, Fx.ofO_some, Fx.ofO_none, Fx.Rs.bind_ok, Fx.nox_ok, Fx.iI, Fx.eqF, Fx.neF, Fx.stN, Fx.stL, Fx.stLc, Fx.stLn, Fx.stC, Fx.lenF, Fx.sumF, Fx.max2F, Fx.min2F, Fx.allF, Fx.anyF, Option.bind_some, if_true, if_false, Bool.not_eq_true, decide_eq_true_eq, Bool.not_true, Bool.not_false, Bool.false_eq_true, reduceIte, Fx.zMod_ok, Int.reduceLT, Int.reduceLE, Int.reduceNeg, and_self, true_and]
end Law

namespace Gen
open PySem PySem.Spec L2 Fx
def topS (i : Nat) : Stmt := PySem.Challenge.pw_leastfloor_k71_the_six_kinds.main.body.getD i (.Pass ⟨0, 0, 0, 0⟩)
/-! ### the walk -/
abbrev s_Alike_word : Stmt := inClass (topS 56) 0
abbrev N_Alike_word : List Str := ["self"]
theorem sc_Alike_word : FnScope N_Alike_word ["self"] (defScope s_Alike_word) := ⟨rfl, rfl, rfl, by decide +kernel, rfl, by decide +kernel, by decide +kernel⟩
abbrev D_Alike_word (kc : Nat → Option Addr) : EnvD (Option Nat × Unit) := (eC (sS true (rK (kone kc 0))) eNil)
abbrev s_Open_word : Stmt := inClass (topS 57) 0
abbrev N_Open_word : List Str := ["self"]
theorem sc_Open_word : FnScope N_Open_word ["self"] (defScope s_Open_word) := ⟨rfl, rfl, rfl, by decide +kernel, rfl, by decide +kernel, by decide +kernel⟩
abbrev D_Open_word (kc : Nat → Option Addr) : EnvD (Option Nat × Unit) := (eC (sS true (rK (kone kc 1))) eNil)
abbrev s_Pairs_word : Stmt := inClass (topS 62) 0
abbrev N_Pairs_word : List Str := ["self"]
theorem sc_Pairs_word : FnScope N_Pairs_word ["self"] (defScope s_Pairs_word) := ⟨rfl, rfl, rfl, by decide +kernel, rfl, by decide +kernel, by decide +kernel⟩
abbrev D_Pairs_word (kc : Nat → Option Addr) : EnvD (Option Nat × Unit) := (eC (sS true (rK (kone kc 5))) eNil)
abbrev s_Tails_word : Stmt := inClass (topS 58) 0
abbrev N_Tails_word : List Str := ["self"]
theorem sc_Tails_word : FnScope N_Tails_word ["self"] (defScope s_Tails_word) := ⟨rfl, rfl, rfl, by decide +kernel, rfl, by decide +kernel, by decide +kernel⟩
abbrev D_Tails_word (kc : Nat → Option Addr) : EnvD (Option Nat × Unit) := (eC (sS true (rK (kone kc 2))) eNil)
abbrev s_Tree_word : Stmt := inClass (topS 61) 0
abbrev N_Tree_word : List Str := ["self"]
theorem sc_Tree_word : FnScope N_Tree_word ["self"] (defScope s_Tree_word) := ⟨rfl, rfl, rfl, by decide +kernel, rfl, by decide +kernel, by decide +kernel⟩
abbrev D_Tree_word (kc : Nat → Option Addr) : EnvD (Option Nat × Unit) := (eC (sS true (rK (kone kc 4))) eNil)
abbrev s_Windows_word : Stmt := inClass (topS 59) 0
abbrev N_Windows_word : List Str := ["self"]
theorem sc_Windows_word : FnScope N_Windows_word ["self"] (defScope s_Windows_word) := ⟨rfl, rfl, rfl, by decide +kernel, rfl, by decide +kernel, by decide +kernel⟩
abbrev D_Windows_word (kc : Nat → Option Addr) : EnvD (Option Nat × Unit) := (eC (sS true (rK (kone kc 3))) eNil)
abbrev s_kinds : Stmt := topS 63
abbrev N_kinds : List Str := []
theorem sc_kinds : FnScope N_kinds [] (defScope s_kinds) := ⟨rfl, rfl, rfl, by decide +kernel, rfl, by decide +kernel, by decide +kernel⟩
abbrev D_kinds (kc : Nat → Option Addr) : EnvD (Unit) := eNil
abbrev s_kind_of : Stmt := topS 64
abbrev N_kind_of : List Str := ["word", "kind"]
theorem sc_kind_of : FnScope N_kind_of ["word"] (defScope s_kind_of) := ⟨rfl, rfl, rfl, by decide +kernel, rfl, by decide +kernel, by decide +kernel⟩
abbrev D_kind_of (kc : Nat → Option Addr) : EnvD (Option Str × Option Nat × Unit) := (eC (sS true rStr) (eC (sS true (rK kc)) eNil))
abbrev s_law_mix : Stmt := topS 66
abbrev N_law_mix : List Str := ["_law_number", "_law_k"]
theorem sc_law_mix : FnScope N_law_mix ["_law_number", "_law_k"] (defScope s_law_mix) := ⟨rfl, rfl, rfl, by decide +kernel, rfl, by decide +kernel, by decide +kernel⟩
abbrev D_law_mix : EnvD (Option Int × Option Int × Unit) := (eC (sS true rInt) (eC (sS true rInt) eNil))
abbrev s_law_words : Stmt := topS 67
abbrev N_law_words : List Str := []
theorem sc_law_words : FnScope N_law_words [] (defScope s_law_words) := ⟨rfl, rfl, rfl, by decide +kernel, rfl, by decide +kernel, by decide +kernel⟩
abbrev D_law_words : EnvD (Unit) := eNil
abbrev s_law_word : Stmt := topS 68
abbrev N_law_word : List Str := ["_law_cell", "_law_words_here", "_law_word_here", "_law_choice", "_law_at", "_law_letters", "_law_k"]
theorem sc_law_word : FnScope N_law_word ["_law_cell"] (defScope s_law_word) := ⟨rfl, rfl, rfl, by decide +kernel, rfl, by decide +kernel, by decide +kernel⟩
abbrev D_law_word : EnvD (Option Int × Option (List Str) × Option Str × Option Int × Option Int × Option Str × Option Int × Unit) := (eC (sS true rInt) (eC (sS true (rList rStr)) (eC (sS true rStr) (eC (sS true rInt) (eC (sS true rInt) (eC (sS true rStr) (eC (sS true rInt) eNil)))))))
abbrev s_law_is_kind : Stmt := topS 69
abbrev N_law_is_kind : List Str := ["_law_kind", "_law_at", "_law_word_here", "_law_found", "_law_k"]
theorem sc_law_is_kind : FnScope N_law_is_kind ["_law_kind", "_law_at"] (defScope s_law_is_kind) := ⟨rfl, rfl, rfl, by decide +kernel, rfl, by decide +kernel, by decide +kernel⟩
abbrev D_law_is_kind (kc : Nat → Option Addr) : EnvD (Option Nat × Option Int × Option Str × Option (List Bool) × Option Int × Unit) := (eC (sS true (rK kc)) (eC (sS true rInt) (eC (sS true rStr) (eC (sS true (rList rBool)) (eC (sS true rInt) eNil)))))
abbrev s_law_refused : Stmt := topS 70
abbrev N_law_refused : List Str := ["_law_word_here", "_law_caught", "e"]
theorem sc_law_refused : FnScope N_law_refused ["_law_word_here"] (defScope s_law_refused) := ⟨rfl, rfl, rfl, by decide +kernel, rfl, by decide +kernel, by decide +kernel⟩
abbrev D_law_refused (ca : Str → Option Addr) : EnvD (Option Str × Option (Option Str) × Option Int × Unit) := (eC (sS true rStr) (eC (sS true (rX ca)) (eC (sS true rInt) eNil)))
abbrev s_law : Stmt := topS 71
abbrev N_law : List Str := ["_law_script", "_law_made", "_law_k", "_law_found", "_law_at", "_law_cell", "_law_word_here"]
theorem sc_law : FnScope N_law ["_law_script"] (defScope s_law) := ⟨rfl, rfl, rfl, by decide +kernel, rfl, by decide +kernel, by decide +kernel⟩
abbrev D_law (kc : Nat → Option Addr) : EnvD (Option (List Int) × Option (List Nat) × Option Int × Option (List Nat) × Option Int × Option Int × Option Str × Unit) := (eC (sS true (rSeq rInt)) (eC (sS true (rList (rK kc))) (eC (sS true rInt) (eC (sO (oList (rK kc))) (eC (sS true rInt) (eC (sS true rInt) (eC (sS true rStr) eNil)))))))
section
variable [Tbs] {Pg : Program} {w : World} {K : PySem.W.Frag} {mg : Str → Option Value} {base : Heap} {ca : Str → Option Addr} {kc : Nat → Option Addr}
theorem ok_Alike_word {fa : Addr} {fd : FuncData} (F : Fun K "word" "Alike.word" s_Alike_word fa fd) : FnOk Pg w K mg base CX0 1 fa fd ["self"] (spM K x0 (pC true (rK (kone kc 0)) pNil) (retS rStr) m_Alike_word) := by
  exact fn_ok (k := 0) (D := (D_Alike_word kc)) (P := (pC true (rK (kone kc 0)) pNil)) (bf := b_Alike_word) F sc_Alike_word (n := 0) (st_consS st_nil) (plen_cons (fun _ _ _ _ _ h => plen_nil h)) rfl (fun cdv A outer s H E hr => ⟨_, (fss_one (fs_ret (atM mF fe_str)))⟩)
theorem ok_Open_word {fa : Addr} {fd : FuncData} (F : Fun K "word" "Open.word" s_Open_word fa fd) : FnOk Pg w K mg base CX0 1 fa fd ["self"] (spM K x0 (pC true (rK (kone kc 1)) pNil) (retS rStr) m_Open_word) := by
  exact fn_ok (k := 0) (D := (D_Open_word kc)) (P := (pC true (rK (kone kc 1)) pNil)) (bf := b_Open_word) F sc_Open_word (n := 0) (st_consS st_nil) (plen_cons (fun _ _ _ _ _ h => plen_nil h)) rfl (fun cdv A outer s H E hr => ⟨_, (fss_one (fs_ret (atM mF fe_str)))⟩)
theorem ok_Pairs_word {fa : Addr} {fd : FuncData} (F : Fun K "word" "Pairs.word" s_Pairs_word fa fd) : FnOk Pg w K mg base CX0 1 fa fd ["self"] (spM K x0 (pC true (rK (kone kc 5)) pNil) (retS rStr) m_Pairs_word) := by
  exact fn_ok (k := 0) (D := (D_Pairs_word kc)) (P := (pC true (rK (kone kc 5)) pNil)) (bf := b_Pairs_word) F sc_Pairs_word (n := 0) (st_consS st_nil) (plen_cons (fun _ _ _ _ _ h => plen_nil h)) rfl (fun cdv A outer s H E hr => ⟨_, (fss_one (fs_ret (atM mF fe_str)))⟩)
theorem ok_Tails_word {fa : Addr} {fd : FuncData} (F : Fun K "word" "Tails.word" s_Tails_word fa fd) : FnOk Pg w K mg base CX0 1 fa fd ["self"] (spM K x0 (pC true (rK (kone kc 2)) pNil) (retS rStr) m_Tails_word) := by
  exact fn_ok (k := 0) (D := (D_Tails_word kc)) (P := (pC true (rK (kone kc 2)) pNil)) (bf := b_Tails_word) F sc_Tails_word (n := 0) (st_consS st_nil) (plen_cons (fun _ _ _ _ _ h => plen_nil h)) rfl (fun cdv A outer s H E hr => ⟨_, (fss_one (fs_ret (atM mF fe_str)))⟩)
theorem ok_Tree_word {fa : Addr} {fd : FuncData} (F : Fun K "word" "Tree.word" s_Tree_word fa fd) : FnOk Pg w K mg base CX0 1 fa fd ["self"] (spM K x0 (pC true (rK (kone kc 4)) pNil) (retS rStr) m_Tree_word) := by
  exact fn_ok (k := 0) (D := (D_Tree_word kc)) (P := (pC true (rK (kone kc 4)) pNil)) (bf := b_Tree_word) F sc_Tree_word (n := 0) (st_consS st_nil) (plen_cons (fun _ _ _ _ _ h => plen_nil h)) rfl (fun cdv A outer s H E hr => ⟨_, (fss_one (fs_ret (atM mF fe_str)))⟩)
theorem ok_Windows_word {fa : Addr} {fd : FuncData} (F : Fun K "word" "Windows.word" s_Windows_word fa fd) : FnOk Pg w K mg base CX0 1 fa fd ["self"] (spM K x0 (pC true (rK (kone kc 3)) pNil) (retS rStr) m_Windows_word) := by
  exact fn_ok (k := 0) (D := (D_Windows_word kc)) (P := (pC true (rK (kone kc 3)) pNil)) (bf := b_Windows_word) F sc_Windows_word (n := 0) (st_consS st_nil) (plen_cons (fun _ _ _ _ _ h => plen_nil h)) rfl (fun cdv A outer s H E hr => ⟨_, (fss_one (fs_ret (atM mF fe_str)))⟩)
theorem ok_kinds {fa : Addr} {fd : FuncData} (F : Fun K "kinds" "kinds" s_kinds fa fd) (bd : Binds K fd [] []) (qd : mg "kinds" = some (.ref fa)) {C_Alike : Addr} (W_Alike : mg "Alike" = some (.ref C_Alike)) (M_Alike : Mk0 K C_Alike) (kc_Alike : kc 0 = some C_Alike) {C_Open : Addr} (W_Open : mg "Open" = some (.ref C_Open)) (M_Open : Mk0 K C_Open) (kc_Open : kc 1 = some C_Open) {C_Tails : Addr} (W_Tails : mg "Tails" = some (.ref C_Tails)) (M_Tails : Mk0 K C_Tails) (kc_Tails : kc 2 = some C_Tails) {C_Windows : Addr} (W_Windows : mg "Windows" = some (.ref C_Windows)) (M_Windows : Mk0 K C_Windows) (kc_Windows : kc 3 = some C_Windows) {C_Tree : Addr} (W_Tree : mg "Tree" = some (.ref C_Tree)) (M_Tree : Mk0 K C_Tree) (kc_Tree : kc 4 = some C_Tree) {C_Pairs : Addr} (W_Pairs : mg "Pairs" = some (.ref C_Pairs)) (M_Pairs : Mk0 K C_Pairs) (kc_Pairs : kc 5 = some C_Pairs) : Cal Pg w K mg base CX0 "kinds" [] 1 (spM K x0 pNil (retO (oList (rK kc))) m_kinds) := by
  exact ⟨_, _, fn_ok (k := 0) (D := (D_kinds kc)) (P := pNil) (bf := b_kinds) F sc_kinds (n := 0) st_nil (fun _ _ _ _ _ h => plen_nil h) rfl (fun cdv A outer s H E hr => ⟨_, (fss_one (fs_retN (fn_list (fl_cons (atM mS (fe_mk0 (i := 0) M_Alike kc_Alike (by rfl) W_Alike)) (fl_cons (atM mS (fe_mk0 (i := 1) M_Open kc_Open (by rfl) W_Open)) (fl_cons (atM mS (fe_mk0 (i := 2) M_Tails kc_Tails (by rfl) W_Tails)) (fl_cons (atM mS (fe_mk0 (i := 3) M_Windows kc_Windows (by rfl) W_Windows)) (fl_cons (atM mS (fe_mk0 (i := 4) M_Tree kc_Tree (by rfl) W_Tree)) (fl_cons (atM mS (fe_mk0 (i := 5) M_Pairs kc_Pairs (by rfl) W_Pairs)) fl_nil)))))))))⟩), bd, qd, F.kp⟩
theorem ok_kind_of {fa : Addr} {fd : FuncData} (F : Fun K "kind_of" "kind_of" s_kind_of fa fd) (bd : Binds K fd ["word"] []) (qd : mg "kind_of" = some (.ref fa)) (T_word : MtT Pg w K mg base CX0 kc "word" 1 fun i => spM K x0 (pC true (rK (kone kc i)) pNil) (retS rStr) (Mt_word i)) {C_NoKind : Addr} (T_NoKind : RsF K mg ca "NoKind" C_NoKind) (C_kinds : Cal Pg w K mg base CX0 "kinds" [] 1 (spM K x0 pNil (retO (oList (rK kc))) m_kinds)) : Cal Pg w K mg base (L2.CX Pg w) "kind_of" ["word"] 2 (spM K (xk ca) (pC true rStr pNil) (retS (rK kc)) m_kind_of) := by
  obtain ⟨f_kinds, fd_kinds, G_kinds, B_kinds, Q_kinds, K_kinds⟩ := C_kinds.ex
  exact ⟨_, _, fn_okX (k := 1) (D := (D_kind_of kc)) (P := (pC true rStr pNil)) (bf := b_kind_of) F sc_kind_of (n := 1) (st_consS (st_none st_nil)) (plen_cons (fun _ _ _ _ _ h => plen_nil h)) rfl (fun cdv A outer s H E hr => ⟨_, (fss_cons (fs_for (bb := true) own_def rfl (fi_list cuts_list (atM mS (fe_fz1 (fn_call0 G_kinds (hr.mono (by decide)) (by rfl) Q_kinds K_kinds B_kinds pass0)))) (fg_name (ls lz) sh_s sc_kind_of.nd) (fss_one (fs_if (ft_cmp (m := mW) op_eq b_eqS (fe_wk (m := mS) (m' := mW) (fe_meth0 T_word (hr.mono (by decide)) pass0 (fe_var (ls lz)))) (fe_wk (m := mS) (m' := mW) (fe_var lz))) (fss_one (fs_ret (fe_wk (m := mS) (m' := mF) (fe_var (ls lz))))) fss_nil)))
      (fss_one (fs_rs T_NoKind)))⟩), bd, qd, F.kp⟩
theorem ok_law_mix {fa : Addr} {fd : FuncData} (F : Fun K "_law_mix" "_law_mix" s_law_mix fa fd) (bd : Binds K fd ["_law_number", "_law_k"] []) (qd : mg "_law_mix" = some (.ref fa)) : Cal Pg w K mg base CX0 "_law_mix" ["_law_number", "_law_k"] 1 (spM K x0 (pC true rInt (pC true rInt pNil)) (retS rInt) m_law_mix) := by
  exact ⟨_, _, fn_ok (k := 0) (D := (D_law_mix)) (P := (pC true rInt (pC true rInt pNil))) (bf := b_law_mix) F sc_law_mix (n := 0) (st_consS (st_consS st_nil)) (plen_cons (plen_cons (fun _ _ _ _ _ h => plen_nil h))) rfl (fun cdv A outer s H E hr => ⟨_, (fss_one (fs_ret (atM mF (fe_bin op_mod b_mod (atM mW (fe_bin op_mulX b_mul (atM mW (fe_bin op_add b_add (atM mW (fe_bin op_add b_add (atM mW (fe_bin op_mulX b_mul (fe_wk (m := mS) (m' := mW) (fe_var lz)) (fe_wk (m := mS) (m' := mW) (fe_var lz)))) (atM mW (fe_bin op_mulX b_mul (fe_wk (m := mS) (m' := mW) (fe_var (ls lz))) (fe_wk (m := mS) (m' := mW) (fe_var lz)))))) (atM mW (fe_bin op_mulX b_mul (atM mW (fe_bin op_mulX b_mul (atM mW fe_int) (fe_wk (m := mS) (m' := mW) (fe_var (ls lz))))) (fe_wk (m := mS) (m' := mW) (fe_var (ls lz))))))) (atM mW fe_int))) (atM mW fe_int)))))⟩), bd, qd, F.kp⟩
theorem ok_law_words {fa : Addr} {fd : FuncData} (F : Fun K "_law_words" "_law_words" s_law_words fa fd) (bd : Binds K fd [] []) (qd : mg "_law_words" = some (.ref fa)) : Cal Pg w K mg base CX0 "_law_words" [] 1 (spM K x0 pNil (retS (rList rStr)) m_law_words) := by
  exact ⟨_, _, fn_ok (k := 0) (D := (D_law_words)) (P := pNil) (bf := b_law_words) F sc_law_words (n := 0) st_nil (fun _ _ _ _ _ h => plen_nil h) rfl (fun cdv A outer s H E hr => ⟨_, (fss_one (fs_ret (atM mF (fe_list (fl_cons (atM mF fe_str) (fl_cons (atM mF fe_str) (fl_cons (atM mF fe_str) (fl_cons (atM mF fe_str) (fl_cons (atM mF fe_str) (fl_cons (atM mF fe_str) fl_nil))))))))))⟩), bd, qd, F.kp⟩
theorem ok_law_word {fa : Addr} {fd : FuncData} (F : Fun K "_law_word" "_law_word" s_law_word fa fd) (bd : Binds K fd ["_law_cell"] []) (qd : mg "_law_word" = some (.ref fa)) (z_len : mg "len" = none) (z_range : mg "range" = none) (C_law_words : Cal Pg w K mg base CX0 "_law_words" [] 1 (spM K x0 pNil (retS (rList rStr)) m_law_words)) (C_law_mix : Cal Pg w K mg base CX0 "_law_mix" ["_law_number", "_law_k"] 1 (spM K x0 (pC true rInt (pC true rInt pNil)) (retS rInt) m_law_mix)) : Cal Pg w K mg base CX0 "_law_word" ["_law_cell"] 2 (spM K x0 (pC true rInt pNil) (retS rStr) m_law_word) := by
  obtain ⟨f_law_words, fd_law_words, G_law_words, B_law_words, Q_law_words, K_law_words⟩ := C_law_words.ex
  obtain ⟨f_law_mix, fd_law_mix, G_law_mix, B_law_mix, Q_law_mix, K_law_mix⟩ := C_law_mix.ex
  exact ⟨_, _, fn_ok (k := 1) (D := (D_law_word)) (P := (pC true rInt pNil)) (bf := b_law_word) F sc_law_word (n := 6) (st_consS (st_none (st_none (st_none (st_none (st_none (st_none st_nil))))))) (plen_cons (fun _ _ _ _ _ h => plen_nil h)) rfl (fun cdv A outer s H E hr => ⟨_, (fss_cons (fs_set (ls lz) sc_law_word.nd (atM mS (fe_call0 G_law_words (hr.mono (by decide)) (by rfl) Q_law_words K_law_words B_law_words pass0)))
      (fss_cons (fs_set (ls (ls lz)) sc_law_word.nd (fe_sc (m := mW) (m' := mS) (fe_ix ix_list b_ixL (fe_wk (m := mS) (m' := mW) (fe_var (ls lz))) (atM mW (fe_bin op_mod b_mod (fe_wk (m := mS) (m' := mW) (fe_var lz)) (atM mW fe_int)))) sc_str))
      (fss_cons (fs_set (ls (ls (ls lz))) sc_law_word.nd (atM mS (fe_bin op_mod b_mod (atM mW (fe_bin op_fdivW b_div (fe_wk (m := mS) (m' := mW) (fe_var lz)) (atM mW fe_int))) (atM mW fe_int))))
      (fss_cons (fs_set (ls (ls (ls (ls lz)))) sc_law_word.nd (atM mS (fe_bin op_mod b_mod (fe_wk (m := mS) (m' := mW) (fe_call G_law_mix (hr.mono (by decide)) (by rfl) Q_law_mix K_law_mix B_law_mix pass0 (fa_consS (fe_var lz) (fa_consS (atM mS fe_int) fa_nil)))) (atM mW (fe_bin op_add b_add (atM mW (fe_b1 call_len_str c_lenS (by rfl) z_len PySem.boot_len (fe_wk (m := mS) (m' := mW) (fe_var (ls (ls lz)))))) (atM mW fe_int))))))
      (fss_cons (fs_set (ls (ls (ls (ls (ls lz))))) sc_law_word.nd (atM mS fe_str))
      (fss_cons (fs_if (ft_cmp (m := mW) op_eq b_eqI (fe_wk (m := mS) (m' := mW) (fe_var (ls (ls (ls lz))))) (atM mW fe_int)) (fss_one (fs_ret (atM mF (fe_cutS (fe_wk (m := mS) (m' := mW) (fe_var (ls (ls lz)))) fo_none (fo_some (atM mW (fe_neg (atM mW fe_int)))))))) fss_nil)
      (fss_cons (fs_if (ft_cmp (m := mW) op_eq b_eqI (fe_wk (m := mS) (m' := mW) (fe_var (ls (ls (ls lz))))) (atM mW fe_int)) (fss_one (fs_ret (atM mF (fe_bin op_add_str b_catS (atM mW (fe_bin op_add_str b_catS (atM mW (fe_cutS (fe_wk (m := mS) (m' := mW) (fe_var (ls (ls lz)))) fo_none (fo_some (fe_wk (m := mS) (m' := mW) (fe_var (ls (ls (ls (ls lz))))))))) (atM mW (fe_ix ix_str b_ixS (fe_wk (m := mS) (m' := mW) (fe_var (ls (ls (ls (ls (ls lz))))))) (atM mW (fe_bin op_mod b_mod (fe_wk (m := mS) (m' := mW) (fe_call G_law_mix (hr.mono (by decide)) (by rfl) Q_law_mix K_law_mix B_law_mix pass0 (fa_consS (fe_var lz) (fa_consS (atM mS fe_int) fa_nil)))) (atM mW fe_int))))))) (atM mW (fe_cutS (fe_wk (m := mS) (m' := mW) (fe_var (ls (ls lz)))) (fo_some (fe_wk (m := mS) (m' := mW) (fe_var (ls (ls (ls (ls lz))))))) fo_none)))))) fss_nil)
      (fss_cons (fs_if (ft_cmp (m := mW) op_eq b_eqI (fe_wk (m := mS) (m' := mW) (fe_var (ls (ls (ls lz))))) (atM mW fe_int)) (fss_one (fs_ret (atM mF (fe_bin op_add_str b_catS (atM mW (fe_bin op_add_str b_catS (atM mW (fe_cutS (fe_wk (m := mS) (m' := mW) (fe_var (ls (ls lz)))) fo_none (fo_some (fe_wk (m := mS) (m' := mW) (fe_var (ls (ls (ls (ls lz))))))))) (atM mW fe_str))) (atM mW (fe_cutS (fe_wk (m := mS) (m' := mW) (fe_var (ls (ls lz)))) (fo_some (fe_wk (m := mS) (m' := mW) (fe_var (ls (ls (ls (ls lz))))))) fo_none)))))) fss_nil)
      (fss_cons (fs_if (ft_cmp (m := mW) op_eq b_eqI (fe_wk (m := mS) (m' := mW) (fe_var (ls (ls (ls lz))))) (atM mW fe_int)) (fss_one (fs_ret (atM mF (fe_bin op_add_str b_catS (atM mW (fe_bin op_add_str b_catS (atM mW (fe_cutS (fe_wk (m := mS) (m' := mW) (fe_var (ls (ls lz)))) fo_none (fo_some (fe_wk (m := mS) (m' := mW) (fe_var (ls (ls (ls (ls lz))))))))) (atM mW (fe_upper (atM mW (fe_cutS (fe_wk (m := mS) (m' := mW) (fe_var (ls (ls lz)))) (fo_some (fe_wk (m := mS) (m' := mW) (fe_var (ls (ls (ls (ls lz))))))) (fo_some (atM mW (fe_bin op_add b_add (fe_wk (m := mS) (m' := mW) (fe_var (ls (ls (ls (ls lz)))))) (atM mW fe_int)))))))))) (atM mW (fe_cutS (fe_wk (m := mS) (m' := mW) (fe_var (ls (ls lz)))) (fo_some (atM mW (fe_bin op_add b_add (fe_wk (m := mS) (m' := mW) (fe_var (ls (ls (ls (ls lz)))))) (atM mW fe_int)))) fo_none)))))) fss_nil)
      (fss_cons (fs_if (ft_cmp (m := mW) op_eq b_eqI (fe_wk (m := mS) (m' := mW) (fe_var (ls (ls (ls lz))))) (atM mW fe_int)) (fss_one (fs_ret (atM mF (fe_bin op_add_str b_catS (fe_wk (m := mS) (m' := mW) (fe_var (ls (ls lz)))) (atM mW (fe_ix ix_list b_ixL (fe_wk (m := mS) (m' := mW) (fe_var (ls lz))) (atM mW (fe_bin op_mod b_mod (fe_wk (m := mS) (m' := mW) (fe_call G_law_mix (hr.mono (by decide)) (by rfl) Q_law_mix K_law_mix B_law_mix pass0 (fa_consS (fe_var lz) (fa_consS (atM mS fe_int) fa_nil)))) (atM mW fe_int))))))))) fss_nil)
      (fss_cons (fs_if (ft_cmp (m := mW) op_eq b_eqI (fe_wk (m := mS) (m' := mW) (fe_var (ls (ls (ls lz))))) (atM mW fe_int)) (fss_one (fs_ret (fe_wk (m := mS) (m' := mF) (fe_m1 (m := mS) PySem.F.slot_str_join PySem.F.type_str_join mt_join c_join (atM mW fe_str) (fe_wk (m := mS) (m' := mW) (fe_lc rfl sc_law_word.nd (lc_mk (mi := mS) rfl (fi_rng1 (by rfl) z_range (atM mW (fe_bin op_mod b_mod (fe_wk (m := mS) (m' := mW) (fe_call G_law_mix (hr.mono (by decide)) (by rfl) Q_law_mix K_law_mix B_law_mix pass0 (fa_consS (fe_var lz) (fa_consS (atM mS fe_int) fa_nil)))) (atM mW fe_int)))) (blkOk_by (N := N_law_word) (sc := defScope s_law_word) (own := [("_law_k", 6)]) (by decide +kernel)) (wp_cons (s' := (sS true rInt)) (ls (ls (ls (ls (ls (ls lz)))))) sh_s wp_nil) (by decide) (fun _ _ _ _ _ => (fg_nameS (bb := true) sc_int (ls (ls (ls (ls (ls (ls lz)))))) sh_s sc_law_word.nd)) (fun _ _ _ _ _ => fts_nil) (fun _ _ _ _ _ => (atM mS (fe_ix ix_str b_ixS (fe_wk (m := mS) (m' := mW) (fe_var (ls (ls (ls (ls (ls lz))))))) (atM mW (fe_bin op_mod b_mod (fe_wk (m := mS) (m' := mW) (fe_call G_law_mix (hr.mono (by decide)) (by rfl) Q_law_mix K_law_mix B_law_mix pass0 (fa_consS (atM mS (fe_bin op_add b_add (fe_wk (m := mS) (m' := mW) (fe_var lz)) (atM mW (fe_bin op_mulX b_mul (fe_wk (m := mS) (m' := mW) (fe_var (ls (ls (ls (ls (ls (ls lz)))))))) (fe_wk (m := mS) (m' := mW) (fe_var (ls (ls (ls (ls (ls (ls lz)))))))))))) (fa_consS (fe_var (ls (ls (ls (ls (ls (ls lz))))))) fa_nil)))) (atM mW fe_int))))))))))))) fss_nil)
      (fss_one (fs_ret (fe_wk (m := mS) (m' := mF) (fe_var (ls (ls lz)))))))))))))))))⟩), bd, qd, F.kp⟩
theorem ok_law_is_kind {fa : Addr} {fd : FuncData} (F : Fun K "_law_is_kind" "_law_is_kind" s_law_is_kind fa fd) (bd : Binds K fd ["_law_kind", "_law_at"] []) (qd : mg "_law_is_kind" = some (.ref fa)) (hKc : ∀ i C, kc i = some C → C8.InsC K C) {C_Floor : Addr} (W_Floor : mg "Floor" = some (.ref C_Floor)) (hk_Floor : ∀ i C b, subk_Floor i = some b → kc i = some C → PySem.W.kitOne K (.ref C) (.ref C_Floor) = some b) {C_Turns : Addr} (W_Turns : mg "Turns" = some (.ref C_Turns)) (hk_Turns : ∀ i C b, subk_Turns i = some b → kc i = some C → PySem.W.kitOne K (.ref C) (.ref C_Turns) = some b) {C_Alike : Addr} (W_Alike : mg "Alike" = some (.ref C_Alike)) (hk_Alike : ∀ i C b, subk_Alike i = some b → kc i = some C → PySem.W.kitOne K (.ref C) (.ref C_Alike) = some b) {C_Open : Addr} (W_Open : mg "Open" = some (.ref C_Open)) (hk_Open : ∀ i C b, subk_Open i = some b → kc i = some C → PySem.W.kitOne K (.ref C) (.ref C_Open) = some b) {C_Tails : Addr} (W_Tails : mg "Tails" = some (.ref C_Tails)) (hk_Tails : ∀ i C b, subk_Tails i = some b → kc i = some C → PySem.W.kitOne K (.ref C) (.ref C_Tails) = some b) {C_Windows : Addr} (W_Windows : mg "Windows" = some (.ref C_Windows)) (hk_Windows : ∀ i C b, subk_Windows i = some b → kc i = some C → PySem.W.kitOne K (.ref C) (.ref C_Windows) = some b) {C_Tree : Addr} (W_Tree : mg "Tree" = some (.ref C_Tree)) (hk_Tree : ∀ i C b, subk_Tree i = some b → kc i = some C → PySem.W.kitOne K (.ref C) (.ref C_Tree) = some b) {C_Pairs : Addr} (W_Pairs : mg "Pairs" = some (.ref C_Pairs)) (hk_Pairs : ∀ i C b, subk_Pairs i = some b → kc i = some C → PySem.W.kitOne K (.ref C) (.ref C_Pairs) = some b) (T_word : MtT Pg w K mg base CX0 kc "word" 1 fun i => spM K x0 (pC true (rK (kone kc i)) pNil) (retS rStr) (Mt_word i)) (z_isinstance : mg "isinstance" = none) (z_str : mg "str" = none) (z_range : mg "range" = none) (C_law_words : Cal Pg w K mg base CX0 "_law_words" [] 1 (spM K x0 pNil (retS (rList rStr)) m_law_words)) : Cal Pg w K mg base CX0 "_law_is_kind" ["_law_kind", "_law_at"] 2 (spM K x0 (pC true (rK kc) (pC true rInt pNil)) (retS rBool) m_law_is_kind) := by
  obtain ⟨f_law_words, fd_law_words, G_law_words, B_law_words, Q_law_words, K_law_words⟩ := C_law_words.ex
  exact ⟨_, _, fn_ok (k := 1) (D := (D_law_is_kind kc)) (P := (pC true (rK kc) (pC true rInt pNil))) (bf := b_law_is_kind) F sc_law_is_kind (n := 3) (st_consS (st_consS (st_none (st_none (st_none st_nil))))) (plen_cons (plen_cons (fun _ _ _ _ _ h => plen_nil h))) rfl (fun cdv A outer s H E hr => ⟨_, (fss_cons (fs_if (ft_not (ft_val (m := mW) (atM mW (fe_isI (sub := subk_Floor) (pe_glob (v := .ref C_Floor) (by rfl) W_Floor rfl) (.own _) hKc hk_Floor (by rfl) z_isinstance (fe_var lz))))) (fss_one (fs_ret (atM mF fe_bool))) fss_nil)
      (fss_cons (fs_set (ls (ls lz)) sc_law_is_kind.nd (atM mS (fe_meth0 T_word (hr.mono (by decide)) pass0 (fe_var lz))))
      (fss_cons (fs_if (FW.ft (fw_or (ft_not (ft_val (m := mW) (atM mW (fe_isi (T := "str") (U := "str") (k := true) ty_str (by decide +kernel) (by rfl) z_isinstance (by rfl) z_str PyProof.Rows.boot_str (fe_wk (m := mS) (m' := mW) (fe_var (ls (ls lz)))))))) (fw_or (ft_cmp (m := mW) op_ne b_neS (fe_wk (m := mS) (m' := mW) (fe_var (ls (ls lz)))) (atM mW (fe_ix ix_list b_ixL (fe_wk (m := mS) (m' := mW) (fe_call0 G_law_words (hr.mono (by decide)) (by rfl) Q_law_words K_law_words B_law_words pass0)) (fe_wk (m := mS) (m' := mW) (fe_var (ls lz)))))) (fw_or1 (ft_cmp (m := mW) op_ne b_neB (atM mW (fe_isI (sub := subk_Turns) (pe_glob (v := .ref C_Turns) (by rfl) W_Turns rfl) (.own _) hKc hk_Turns (by rfl) z_isinstance (fe_var lz))) (atM mW (fe_cmp op_gt b_gt (fe_wk (m := mS) (m' := mW) (fe_var (ls lz))) (atM mW fe_int)))))))) (fss_one (fs_ret (atM mF fe_bool))) fss_nil)
      (fss_cons (fs_set (ls (ls (ls lz))) sc_law_is_kind.nd (atM mS (fe_list (fl_cons (atM mS (fe_isI (sub := subk_Alike) (pe_glob (v := .ref C_Alike) (by rfl) W_Alike rfl) (.own _) hKc hk_Alike (by rfl) z_isinstance (fe_var lz))) (fl_cons (atM mS (fe_isI (sub := subk_Open) (pe_glob (v := .ref C_Open) (by rfl) W_Open rfl) (.own _) hKc hk_Open (by rfl) z_isinstance (fe_var lz))) (fl_cons (atM mS (fe_isI (sub := subk_Tails) (pe_glob (v := .ref C_Tails) (by rfl) W_Tails rfl) (.own _) hKc hk_Tails (by rfl) z_isinstance (fe_var lz))) (fl_cons (atM mS (fe_isI (sub := subk_Windows) (pe_glob (v := .ref C_Windows) (by rfl) W_Windows rfl) (.own _) hKc hk_Windows (by rfl) z_isinstance (fe_var lz))) fl_nil)))))))
      (fss_one (fs_ret (atM mF (fe_cmp (op_eqD hr.units) (b_eqD (qList qBool)) (atM mW (fe_bin op_cat b_cat (fe_wk (m := mS) (m' := mW) (fe_var (ls (ls (ls lz))))) (atM mW (fe_list (fl_cons (atM mW (fe_isI (sub := subk_Tree) (pe_glob (v := .ref C_Tree) (by rfl) W_Tree rfl) (.own _) hKc hk_Tree (by rfl) z_isinstance (fe_var lz))) (fl_cons (atM mW (fe_isI (sub := subk_Pairs) (pe_glob (v := .ref C_Pairs) (by rfl) W_Pairs rfl) (.own _) hKc hk_Pairs (by rfl) z_isinstance (fe_var lz))) fl_nil)))))) (fe_wk (m := mS) (m' := mW) (fe_lc rfl sc_law_is_kind.nd (lc_mk (mi := mS) rfl (fi_rng1 (by rfl) z_range (atM mW fe_int)) (blkOk_by (N := N_law_is_kind) (sc := defScope s_law_is_kind) (own := [("_law_k", 4)]) (by decide +kernel)) (wp_cons (s' := (sS true rInt)) (ls (ls (ls (ls lz)))) sh_s wp_nil) (by decide) (fun _ _ _ _ _ => (fg_nameS (bb := true) sc_int (ls (ls (ls (ls lz)))) sh_s sc_law_is_kind.nd)) (fun _ _ _ _ _ => fts_nil) (fun _ _ _ _ _ => (atM mS (fe_cmp op_eq b_eqI (fe_wk (m := mS) (m' := mW) (fe_var (ls (ls (ls (ls lz)))))) (fe_wk (m := mS) (m' := mW) (fe_var (ls lz)))))))))))))))))⟩), bd, qd, F.kp⟩
theorem ok_law_refused {fa : Addr} {fd : FuncData} (F : Fun K "_law_refused" "_law_refused" s_law_refused fa fd) (bd : Binds K fd ["_law_word_here"] []) (qd : mg "_law_refused" = some (.ref fa)) (z_isinstance : mg "isinstance" = none) (z_ValueError : mg "ValueError" = none) (hEx : ∀ c C, ca c = some C → ExcC K C) {C_FloorError : Addr} (W_FloorError : mg "FloorError" = some (.ref C_FloorError)) (hs_FloorError : ∀ c C b, sub_FloorError c = some b → ca c = some C → PySem.W.kitOne K (.ref C) (.ref C_FloorError) = some b) {C_NoRoom : Addr} (W_NoRoom : mg "NoRoom" = some (.ref C_NoRoom)) (hs_NoRoom : ∀ c C b, sub_NoRoom c = some b → ca c = some C → PySem.W.kitOne K (.ref C) (.ref C_NoRoom) = some b) {C_NoOrder : Addr} (W_NoOrder : mg "NoOrder" = some (.ref C_NoOrder)) (hs_NoOrder : ∀ c C b, sub_NoOrder c = some b → ca c = some C → PySem.W.kitOne K (.ref C) (.ref C_NoOrder) = some b) {C_NoText : Addr} (W_NoText : mg "NoText" = some (.ref C_NoText)) (hs_NoText : ∀ c C b, sub_NoText c = some b → ca c = some C → PySem.W.kitOne K (.ref C) (.ref C_NoText) = some b) {C_NoFloor : Addr} (W_NoFloor : mg "NoFloor" = some (.ref C_NoFloor)) (hs_NoFloor : ∀ c C b, sub_NoFloor c = some b → ca c = some C → PySem.W.kitOne K (.ref C) (.ref C_NoFloor) = some b) {C_NoRow : Addr} (W_NoRow : mg "NoRow" = some (.ref C_NoRow)) (hs_NoRow : ∀ c C b, sub_NoRow c = some b → ca c = some C → PySem.W.kitOne K (.ref C) (.ref C_NoRow) = some b) {C_NoName : Addr} (W_NoName : mg "NoName" = some (.ref C_NoName)) (hs_NoName : ∀ c C b, sub_NoName c = some b → ca c = some C → PySem.W.kitOne K (.ref C) (.ref C_NoName) = some b) {C_NoKind : Addr} (W_NoKind : mg "NoKind" = some (.ref C_NoKind)) (hs_NoKind : ∀ c C b, sub_NoKind c = some b → ca c = some C → PySem.W.kitOne K (.ref C) (.ref C_NoKind) = some b) (hs_ValueError : ∀ c C b, sub_ValueError c = some b → ca c = some C → PySem.W.kitOne K (.ref C) (.type "ValueError") = some b) (he_FloorError : ∀ c C b, sub_FloorError c = some b → ca c = some C → PySem.W.exmOne K (.ref C) (.ref C_FloorError) = some b) (hc_FloorError : ∀ c b, sub_FloorError c = some b → ∃ C, ca c = some C) (C_kind_of : Cal Pg w K mg base (L2.CX Pg w) "kind_of" ["word"] 2 (spM K (xk ca) (pC true rStr pNil) (retS (rK kc)) m_kind_of)) : Cal Pg w K mg base CX0 "_law_refused" ["_law_word_here"] 3 (spM K x0 (pC true rStr pNil) (retS rBool) m_law_refused) := by
  obtain ⟨f_kind_of, fd_kind_of, G_kind_of, B_kind_of, Q_kind_of, K_kind_of⟩ := C_kind_of.ex
  exact ⟨_, _, fn_ok (k := 2) (D := (D_law_refused ca)) (P := (pC true rStr pNil)) (bf := b_law_refused) F sc_law_refused (n := 2) (st_consS (st_none (st_none st_nil))) (plen_cons (fun _ _ _ _ _ h => plen_nil h)) rfl (fun cdv A outer s H E hr => ⟨_, (fss_cons (fs_set (ls lz) sc_law_refused.nd fe_noneX)
      (fss_cons (fs_tryKeep (cv := .ref C_FloorError) (sub := sub_FloorError) (Wout := fun _ _ _ _ => False) (ls (ls lz)) (ls lz) (by decide) rfl rfl sc_law_refused.nd rfl rfl rfl (.inl rfl) (.inr rfl) (.inl rfl) (by decide) (by decide) ⟨by rfl, by decide, .inl W_FloorError⟩ takes0 rfl he_FloorError (fun _ _ _ _ _ _ h => h.elim) hc_FloorError G_kind_of (hr.mono (by decide)) (by rfl) Q_kind_of K_kind_of B_kind_of (fun _ _ => (fa_consS (fe_var lz) fa_nil)) rfl)
      (fss_cons (fs_if (FW.ft (fw_or (ft_val (m := mW) (atM mW (fe_isXT (ss := [sub_NoRoom, sub_NoOrder, sub_NoText]) (pa_cons (pe_glob (v := .ref C_NoRoom) (by rfl) W_NoRoom rfl) (pa_cons (pe_glob (v := .ref C_NoOrder) (by rfl) W_NoOrder rfl) (pa_cons (pe_glob (v := .ref C_NoText) (by rfl) W_NoText rfl) pa_nil (by rfl)) (by rfl)) (by rfl)) (.cons (fun z h => by cases h; rfl) (.cons (fun z h => by cases h; rfl) (.cons (fun z h => by cases h; rfl) .nil))) (show 3 ≤ sizeLine from by decide) hEx (kitL_cons hs_NoRoom (kitL_cons hs_NoOrder (kitL_cons hs_NoText kitL_nil))) (by rfl) z_isinstance (fe_var (ls lz))))) (fw_or1 (ft_val (m := mW) (atM mW (fe_isXT (ss := [sub_NoFloor, sub_NoRow, sub_NoName]) (pa_cons (pe_glob (v := .ref C_NoFloor) (by rfl) W_NoFloor rfl) (pa_cons (pe_glob (v := .ref C_NoRow) (by rfl) W_NoRow rfl) (pa_cons (pe_glob (v := .ref C_NoName) (by rfl) W_NoName rfl) pa_nil (by rfl)) (by rfl)) (by rfl)) (.cons (fun z h => by cases h; rfl) (.cons (fun z h => by cases h; rfl) (.cons (fun z h => by cases h; rfl) .nil))) (show 3 ≤ sizeLine from by decide) hEx (kitL_cons hs_NoFloor (kitL_cons hs_NoRow (kitL_cons hs_NoName kitL_nil))) (by rfl) z_isinstance (fe_var (ls lz)))))))) (fss_one (fs_ret (atM mF fe_bool))) fss_nil)
      (fss_one (fs_ret (atM mF (fe_and (atM mW (fe_isX (sub := sub_NoKind) (pe_glob (v := .ref C_NoKind) (by rfl) W_NoKind rfl) (fun z h => by cases h; rfl) hEx hs_NoKind (by rfl) z_isinstance (fe_var (ls lz)))) (fe_one (atM mF (fe_isX (sub := sub_ValueError) (pe_bltn (v := .ty "ValueError") (by rfl) z_ValueError (by rfl) rfl) (fun z h => by cases h; rfl) hEx hs_ValueError (by rfl) z_isinstance (fe_var (ls lz))))))))))))⟩), bd, qd, F.kp⟩

end
section
variable [Tbs] {Pg : Program} {w : World} {K : PySem.W.Frag} {mg : Str → Option Value} {base : Heap} {ca : Str → Option Addr} {kc : Nat → Option Addr}
theorem fnlaw {fa : Addr} {fd : FuncData} (F : Fun K "law" "law" s_law fa fd) (bd : Binds K fd ["_law_script"] []) (qd : mg "law" = some (.ref fa)) {C_Alike : Addr} (W_Alike : mg "Alike" = some (.ref C_Alike)) (M_Alike : Mk0 K C_Alike) (kc_Alike : kc 0 = some C_Alike) {C_Open : Addr} (W_Open : mg "Open" = some (.ref C_Open)) (M_Open : Mk0 K C_Open) (kc_Open : kc 1 = some C_Open) {C_Tails : Addr} (W_Tails : mg "Tails" = some (.ref C_Tails)) (M_Tails : Mk0 K C_Tails) (kc_Tails : kc 2 = some C_Tails) {C_Windows : Addr} (W_Windows : mg "Windows" = some (.ref C_Windows)) (M_Windows : Mk0 K C_Windows) (kc_Windows : kc 3 = some C_Windows) {C_Tree : Addr} (W_Tree : mg "Tree" = some (.ref C_Tree)) (M_Tree : Mk0 K C_Tree) (kc_Tree : kc 4 = some C_Tree) {C_Pairs : Addr} (W_Pairs : mg "Pairs" = some (.ref C_Pairs)) (M_Pairs : Mk0 K C_Pairs) (kc_Pairs : kc 5 = some C_Pairs) (z_range : mg "range" = none) (z_isinstance : mg "isinstance" = none) (z_list : mg "list" = none) (z_len : mg "len" = none) (C_kinds : Cal Pg w K mg base CX0 "kinds" [] 1 (spM K x0 pNil (retO (oList (rK kc))) m_kinds)) (C_law_is_kind : Cal Pg w K mg base CX0 "_law_is_kind" ["_law_kind", "_law_at"] 2 (spM K x0 (pC true (rK kc) (pC true rInt pNil)) (retS rBool) m_law_is_kind)) (C_law_word : Cal Pg w K mg base CX0 "_law_word" ["_law_cell"] 2 (spM K x0 (pC true rInt pNil) (retS rStr) m_law_word)) (C_law_words : Cal Pg w K mg base CX0 "_law_words" [] 1 (spM K x0 pNil (retS (rList rStr)) m_law_words)) (C_kind_of : Cal Pg w K mg base (L2.CX Pg w) "kind_of" ["word"] 2 (spM K (xk ca) (pC true rStr pNil) (retS (rK kc)) m_kind_of)) (C_law_refused : Cal Pg w K mg base CX0 "_law_refused" ["_law_word_here"] 3 (spM K x0 (pC true rStr pNil) (retS rBool) m_law_refused)) : FnOk Pg w K mg base CX0 4 fa fd ["_law_script"] (spM K x0 (pC true (rSeq rInt) pNil) (retS rBool) m_law) := by
  obtain ⟨f_kinds, fd_kinds, G_kinds, B_kinds, Q_kinds, K_kinds⟩ := C_kinds.ex
  obtain ⟨f_law_is_kind, fd_law_is_kind, G_law_is_kind, B_law_is_kind, Q_law_is_kind, K_law_is_kind⟩ := C_law_is_kind.ex
  obtain ⟨f_law_word, fd_law_word, G_law_word, B_law_word, Q_law_word, K_law_word⟩ := C_law_word.ex
  obtain ⟨f_law_words, fd_law_words, G_law_words, B_law_words, Q_law_words, K_law_words⟩ := C_law_words.ex
  obtain ⟨f_kind_of, fd_kind_of, G_kind_of, B_kind_of, Q_kind_of, K_kind_of⟩ := C_kind_of.ex
  obtain ⟨f_law_refused, fd_law_refused, G_law_refused, B_law_refused, Q_law_refused, K_law_refused⟩ := C_law_refused.ex
  exact fn_ok (k := 3) (D := (D_law kc)) (P := (pC true (rSeq rInt) pNil)) (bf := b_law) F sc_law (n := 6) (st_consS (st_none (st_none (st_none (st_none (st_none (st_none st_nil))))))) (plen_cons (fun _ _ _ _ _ h => plen_nil h)) rfl (fun cdv A outer s H E hr => ⟨_, (fss_cons (fs_set (ls lz) sc_law.nd (atM mS (fe_list (fl_cons (atM mS (fe_mk0 (i := 0) M_Alike kc_Alike (by rfl) W_Alike)) (fl_cons (atM mS (fe_mk0 (i := 1) M_Open kc_Open (by rfl) W_Open)) (fl_cons (atM mS (fe_mk0 (i := 2) M_Tails kc_Tails (by rfl) W_Tails)) (fl_cons (atM mS (fe_mk0 (i := 3) M_Windows kc_Windows (by rfl) W_Windows)) (fl_cons (atM mS (fe_mk0 (i := 4) M_Tree kc_Tree (by rfl) W_Tree)) (fl_cons (atM mS (fe_mk0 (i := 5) M_Pairs kc_Pairs (by rfl) W_Pairs)) fl_nil)))))))))
      (fss_cons (fs_for (bb := true) PassesOwn.never rfl (fi_rng1 (by rfl) z_range (atM mW fe_int)) (fg_nameS (bb := true) sc_int (ls (ls lz)) sh_s sc_law.nd) (fss_cons (fs_setO (ol_o (ls (ls (ls lz)))) sc_law.nd (fn_call0 G_kinds (hr.mono (by decide)) (by rfl) Q_kinds K_kinds B_kinds pass0))
      (fss_cons (fs_if (FW.ft (fw_or (ft_not (ft_val (m := mW) (atM mW (fe_isi (T := "list") (U := "list") (k := true) ty_list (by decide +kernel) (by rfl) z_isinstance (by rfl) z_list PyProof.Rows.boot_list (fe_wk (m := mF) (m' := mW) (fe_own (ls (ls (ls lz))))))))) (fw_or1 (ft_cmp (m := mW) op_ne b_neI (atM mW (fe_len c_lenL (by rfl) z_len (fe_wk (m := mF) (m' := mW) (fe_own (ls (ls (ls lz))))))) (atM mW fe_int))))) (fss_one (fs_ret (atM mF fe_bool))) fss_nil)
      (fss_cons (fs_for (bb := true) PassesOwn.never rfl (fi_rng1 (by rfl) z_range (atM mW fe_int)) (fg_nameS (bb := true) sc_int (ls (ls (ls (ls lz)))) sh_s sc_law.nd) (fss_one (fs_if (FW.ft (fw_or (ft_not (ft_val (m := mW) (fe_wk (m := mS) (m' := mW) (fe_call G_law_is_kind (hr.mono (by decide)) (by rfl) Q_law_is_kind K_law_is_kind B_law_is_kind pass0 (fa_consS (atM mS (fe_ixO (ol_o (ls (ls (ls lz)))) (fe_wk (m := mS) (m' := mW) (fe_var (ls (ls (ls (ls lz)))))))) (fa_consS (fe_var (ls (ls (ls (ls lz))))) fa_nil)))))) (fw_or1 (ft_not (ft_val (m := mW) (fe_wk (m := mS) (m' := mW) (fe_call G_law_is_kind (hr.mono (by decide)) (by rfl) Q_law_is_kind K_law_is_kind B_law_is_kind pass0 (fa_consS (atM mS (fe_ix ix_list b_ixL (fe_var (ls lz)) (fe_wk (m := mS) (m' := mW) (fe_var (ls (ls (ls (ls lz)))))))) (fa_consS (fe_var (ls (ls (ls (ls lz))))) fa_nil))))))))) (fss_one (fs_ret (atM mF fe_bool))) fss_nil)))
      (fss_cons (fs_popI (ol_o (ls (ls (ls lz)))) (atM mS (fe_bin op_mulX b_mul (atM mW fe_int) (fe_wk (m := mS) (m' := mW) (fe_var (ls (ls lz)))))))
      (fss_one (fs_append (ol_o (ls (ls (ls lz)))) (atM mS (fe_ixO (ol_o (ls (ls (ls lz)))) (atM mW fe_int))))))))))
      (fss_cons (fs_for (bb := true) PassesOwn.never rfl (fi_list cuts_list (atM mS (fe_bin op_cat b_cat (atM mS (fe_list (fl_cons (atM mS fe_int) fl_nil))) (atM mS (fe_cut cuts_seq (fe_var lz) fo_none (fo_some (atM mW fe_int))))))) (fg_nameS (bb := true) sc_int (ls (ls (ls (ls (ls lz))))) sh_s sc_law.nd) (fss_cons (fs_set (ls (ls (ls (ls (ls (ls lz)))))) sc_law.nd (atM mS (fe_call G_law_word (hr.mono (by decide)) (by rfl) Q_law_word K_law_word B_law_word pass0 (fa_consS (fe_var (ls (ls (ls (ls (ls lz)))))) fa_nil))))
      (fss_one (fs_if (ft_cmp (m := mW) op_in_seq b_inLS (fe_wk (m := mS) (m' := mW) (fe_var (ls (ls (ls (ls (ls (ls lz)))))))) (fe_wk (m := mS) (m' := mW) (fe_call0 G_law_words (hr.mono (by decide)) (by rfl) Q_law_words K_law_words B_law_words pass0))) (fss_one (fs_if (ft_not (ft_val (m := mW) (fe_wk (m := mS) (m' := mW) (fe_call G_law_is_kind (hr.mono (by decide)) (by rfl) Q_law_is_kind K_law_is_kind B_law_is_kind pass0 (fa_consS (atM mS (fe_call G_kind_of (hr.mono (by decide)) (by rfl) Q_kind_of K_kind_of B_kind_of passL (fa_consS (fe_var (ls (ls (ls (ls (ls (ls lz))))))) fa_nil))) (fa_consS (atM mS (fe_indexS (fe_wk (m := mS) (m' := mW) (fe_call0 G_law_words (hr.mono (by decide)) (by rfl) Q_law_words K_law_words B_law_words pass0)) (fe_wk (m := mS) (m' := mW) (fe_var (ls (ls (ls (ls (ls (ls lz)))))))))) fa_nil)))))) (fss_one (fs_ret (atM mF fe_bool))) fss_nil)) (fss_one (fs_if (ft_not (ft_val (m := mW) (fe_wk (m := mS) (m' := mW) (fe_call G_law_refused (hr.mono (by decide)) (by rfl) Q_law_refused K_law_refused B_law_refused pass0 (fa_consS (fe_var (ls (ls (ls (ls (ls (ls lz))))))) fa_nil))))) (fss_one (fs_ret (atM mF fe_bool))) fss_nil))))))
      (fss_one (fs_ret (atM mF fe_bool))))))⟩)
end
theorem all_mk [tb : Tbs] {cs : List (Addr × Addr)} {l : PySem.W.OpenLaw} {w : World} {K : PySem.W.Frag} {h : Heap} {mg : Str → Option Value} {fa f_Alike_word f_Open_word f_Pairs_word f_Tails_word f_Tree_word f_Windows_word f_kinds f_kind_of f_law_mix f_law_words f_law_word f_law_is_kind f_law_refused f_law : Addr} (X : K.In h) (G : h.Ns mainGlobals mg) (hfa : mg "law" = some (.ref fa))
    {C_Floor : Addr} (g_Floor : PySem.W.nsIn K mainGlobals "Floor" = some (some (.ref C_Floor)))
    {C_Alike : Addr} (g_Alike : PySem.W.nsIn K mainGlobals "Alike" = some (some (.ref C_Alike)))
    {C_Open : Addr} (g_Open : PySem.W.nsIn K mainGlobals "Open" = some (some (.ref C_Open)))
    {C_Tails : Addr} (g_Tails : PySem.W.nsIn K mainGlobals "Tails" = some (some (.ref C_Tails)))
    {C_Windows : Addr} (g_Windows : PySem.W.nsIn K mainGlobals "Windows" = some (some (.ref C_Windows)))
    {C_Turns : Addr} (g_Turns : PySem.W.nsIn K mainGlobals "Turns" = some (some (.ref C_Turns)))
    {C_Tree : Addr} (g_Tree : PySem.W.nsIn K mainGlobals "Tree" = some (some (.ref C_Tree)))
    {C_Pairs : Addr} (g_Pairs : PySem.W.nsIn K mainGlobals "Pairs" = some (some (.ref C_Pairs)))
    (mk_Alike : Mk0 K C_Alike) (kk_Alike : C8.InsC K C_Alike)
    (mk_Open : Mk0 K C_Open) (kk_Open : C8.InsC K C_Open)
    (mk_Tails : Mk0 K C_Tails) (kk_Tails : C8.InsC K C_Tails)
    (mk_Windows : Mk0 K C_Windows) (kk_Windows : C8.InsC K C_Windows)
    (mk_Tree : Mk0 K C_Tree) (kk_Tree : C8.InsC K C_Tree)
    (mk_Pairs : Mk0 K C_Pairs) (kk_Pairs : C8.InsC K C_Pairs)
    (xq_Alike_Alike : PySem.W.kitOne K (.ref C_Alike) (.ref C_Alike) = some true)
    (xq_Alike_Open : PySem.W.kitOne K (.ref C_Open) (.ref C_Alike) = some false)
    (xq_Alike_Tails : PySem.W.kitOne K (.ref C_Tails) (.ref C_Alike) = some false)
    (xq_Alike_Windows : PySem.W.kitOne K (.ref C_Windows) (.ref C_Alike) = some false)
    (xq_Alike_Tree : PySem.W.kitOne K (.ref C_Tree) (.ref C_Alike) = some false)
    (xq_Alike_Pairs : PySem.W.kitOne K (.ref C_Pairs) (.ref C_Alike) = some false)
    (xq_Floor_Alike : PySem.W.kitOne K (.ref C_Alike) (.ref C_Floor) = some true)
    (xq_Floor_Open : PySem.W.kitOne K (.ref C_Open) (.ref C_Floor) = some true)
    (xq_Floor_Tails : PySem.W.kitOne K (.ref C_Tails) (.ref C_Floor) = some true)
    (xq_Floor_Windows : PySem.W.kitOne K (.ref C_Windows) (.ref C_Floor) = some true)
    (xq_Floor_Tree : PySem.W.kitOne K (.ref C_Tree) (.ref C_Floor) = some true)
    (xq_Floor_Pairs : PySem.W.kitOne K (.ref C_Pairs) (.ref C_Floor) = some true)
    (xq_Open_Alike : PySem.W.kitOne K (.ref C_Alike) (.ref C_Open) = some false)
    (xq_Open_Open : PySem.W.kitOne K (.ref C_Open) (.ref C_Open) = some true)
    (xq_Open_Tails : PySem.W.kitOne K (.ref C_Tails) (.ref C_Open) = some false)
    (xq_Open_Windows : PySem.W.kitOne K (.ref C_Windows) (.ref C_Open) = some false)
    (xq_Open_Tree : PySem.W.kitOne K (.ref C_Tree) (.ref C_Open) = some false)
    (xq_Open_Pairs : PySem.W.kitOne K (.ref C_Pairs) (.ref C_Open) = some false)
    (xq_Pairs_Alike : PySem.W.kitOne K (.ref C_Alike) (.ref C_Pairs) = some false)
    (xq_Pairs_Open : PySem.W.kitOne K (.ref C_Open) (.ref C_Pairs) = some false)
    (xq_Pairs_Tails : PySem.W.kitOne K (.ref C_Tails) (.ref C_Pairs) = some false)
    (xq_Pairs_Windows : PySem.W.kitOne K (.ref C_Windows) (.ref C_Pairs) = some false)
    (xq_Pairs_Tree : PySem.W.kitOne K (.ref C_Tree) (.ref C_Pairs) = some false)
    (xq_Pairs_Pairs : PySem.W.kitOne K (.ref C_Pairs) (.ref C_Pairs) = some true)
    (xq_Tails_Alike : PySem.W.kitOne K (.ref C_Alike) (.ref C_Tails) = some false)
    (xq_Tails_Open : PySem.W.kitOne K (.ref C_Open) (.ref C_Tails) = some false)
    (xq_Tails_Tails : PySem.W.kitOne K (.ref C_Tails) (.ref C_Tails) = some true)
    (xq_Tails_Windows : PySem.W.kitOne K (.ref C_Windows) (.ref C_Tails) = some false)
    (xq_Tails_Tree : PySem.W.kitOne K (.ref C_Tree) (.ref C_Tails) = some false)
    (xq_Tails_Pairs : PySem.W.kitOne K (.ref C_Pairs) (.ref C_Tails) = some false)
    (xq_Tree_Alike : PySem.W.kitOne K (.ref C_Alike) (.ref C_Tree) = some false)
    (xq_Tree_Open : PySem.W.kitOne K (.ref C_Open) (.ref C_Tree) = some false)
    (xq_Tree_Tails : PySem.W.kitOne K (.ref C_Tails) (.ref C_Tree) = some false)
    (xq_Tree_Windows : PySem.W.kitOne K (.ref C_Windows) (.ref C_Tree) = some false)
    (xq_Tree_Tree : PySem.W.kitOne K (.ref C_Tree) (.ref C_Tree) = some true)
    (xq_Tree_Pairs : PySem.W.kitOne K (.ref C_Pairs) (.ref C_Tree) = some false)
    (xq_Turns_Alike : PySem.W.kitOne K (.ref C_Alike) (.ref C_Turns) = some false)
    (xq_Turns_Open : PySem.W.kitOne K (.ref C_Open) (.ref C_Turns) = some false)
    (xq_Turns_Tails : PySem.W.kitOne K (.ref C_Tails) (.ref C_Turns) = some false)
    (xq_Turns_Windows : PySem.W.kitOne K (.ref C_Windows) (.ref C_Turns) = some false)
    (xq_Turns_Tree : PySem.W.kitOne K (.ref C_Tree) (.ref C_Turns) = some true)
    (xq_Turns_Pairs : PySem.W.kitOne K (.ref C_Pairs) (.ref C_Turns) = some true)
    (xq_Windows_Alike : PySem.W.kitOne K (.ref C_Alike) (.ref C_Windows) = some false)
    (xq_Windows_Open : PySem.W.kitOne K (.ref C_Open) (.ref C_Windows) = some false)
    (xq_Windows_Tails : PySem.W.kitOne K (.ref C_Tails) (.ref C_Windows) = some false)
    (xq_Windows_Windows : PySem.W.kitOne K (.ref C_Windows) (.ref C_Windows) = some true)
    (xq_Windows_Tree : PySem.W.kitOne K (.ref C_Tree) (.ref C_Windows) = some false)
    (xq_Windows_Pairs : PySem.W.kitOne K (.ref C_Pairs) (.ref C_Windows) = some false)
    {oc_Alike_word kV_Alike_word dc_Alike_word pm_Alike_word cd_Alike_word ct_Alike_word : Value} {od_Alike_word an_Alike_word : Option Addr} {sl_Alike_word : Array (Option Value)}
    (a_Alike_word : PySem.W.findIn K (.ref C_Alike) "word" = some (some (.ref f_Alike_word))) (i_Alike_word : PySem.W.isFn K (.ref f_Alike_word) = true) (l_Alike_word : K.lookup f_Alike_word = some ⟨oc_Alike_word, od_Alike_word, .func (PySem.W.fnOf "word" "Alike.word" (defArgs s_Alike_word) (defBody s_Alike_word) (defScope s_Alike_word) .none kV_Alike_word dc_Alike_word pm_Alike_word an_Alike_word cd_Alike_word ct_Alike_word), sl_Alike_word⟩) (c_Alike_word : PySem.W.codeIn K cd_Alike_word "Alike.word" = true) (k_Alike_word : PySem.W.keepIn K (.ref f_Alike_word) = true)
    {oc_Open_word kV_Open_word dc_Open_word pm_Open_word cd_Open_word ct_Open_word : Value} {od_Open_word an_Open_word : Option Addr} {sl_Open_word : Array (Option Value)}
    (a_Open_word : PySem.W.findIn K (.ref C_Open) "word" = some (some (.ref f_Open_word))) (i_Open_word : PySem.W.isFn K (.ref f_Open_word) = true) (l_Open_word : K.lookup f_Open_word = some ⟨oc_Open_word, od_Open_word, .func (PySem.W.fnOf "word" "Open.word" (defArgs s_Open_word) (defBody s_Open_word) (defScope s_Open_word) .none kV_Open_word dc_Open_word pm_Open_word an_Open_word cd_Open_word ct_Open_word), sl_Open_word⟩) (c_Open_word : PySem.W.codeIn K cd_Open_word "Open.word" = true) (k_Open_word : PySem.W.keepIn K (.ref f_Open_word) = true)
    {oc_Pairs_word kV_Pairs_word dc_Pairs_word pm_Pairs_word cd_Pairs_word ct_Pairs_word : Value} {od_Pairs_word an_Pairs_word : Option Addr} {sl_Pairs_word : Array (Option Value)}
    (a_Pairs_word : PySem.W.findIn K (.ref C_Pairs) "word" = some (some (.ref f_Pairs_word))) (i_Pairs_word : PySem.W.isFn K (.ref f_Pairs_word) = true) (l_Pairs_word : K.lookup f_Pairs_word = some ⟨oc_Pairs_word, od_Pairs_word, .func (PySem.W.fnOf "word" "Pairs.word" (defArgs s_Pairs_word) (defBody s_Pairs_word) (defScope s_Pairs_word) .none kV_Pairs_word dc_Pairs_word pm_Pairs_word an_Pairs_word cd_Pairs_word ct_Pairs_word), sl_Pairs_word⟩) (c_Pairs_word : PySem.W.codeIn K cd_Pairs_word "Pairs.word" = true) (k_Pairs_word : PySem.W.keepIn K (.ref f_Pairs_word) = true)
    {oc_Tails_word kV_Tails_word dc_Tails_word pm_Tails_word cd_Tails_word ct_Tails_word : Value} {od_Tails_word an_Tails_word : Option Addr} {sl_Tails_word : Array (Option Value)}
    (a_Tails_word : PySem.W.findIn K (.ref C_Tails) "word" = some (some (.ref f_Tails_word))) (i_Tails_word : PySem.W.isFn K (.ref f_Tails_word) = true) (l_Tails_word : K.lookup f_Tails_word = some ⟨oc_Tails_word, od_Tails_word, .func (PySem.W.fnOf "word" "Tails.word" (defArgs s_Tails_word) (defBody s_Tails_word) (defScope s_Tails_word) .none kV_Tails_word dc_Tails_word pm_Tails_word an_Tails_word cd_Tails_word ct_Tails_word), sl_Tails_word⟩) (c_Tails_word : PySem.W.codeIn K cd_Tails_word "Tails.word" = true) (k_Tails_word : PySem.W.keepIn K (.ref f_Tails_word) = true)
    {oc_Tree_word kV_Tree_word dc_Tree_word pm_Tree_word cd_Tree_word ct_Tree_word : Value} {od_Tree_word an_Tree_word : Option Addr} {sl_Tree_word : Array (Option Value)}
    (a_Tree_word : PySem.W.findIn K (.ref C_Tree) "word" = some (some (.ref f_Tree_word))) (i_Tree_word : PySem.W.isFn K (.ref f_Tree_word) = true) (l_Tree_word : K.lookup f_Tree_word = some ⟨oc_Tree_word, od_Tree_word, .func (PySem.W.fnOf "word" "Tree.word" (defArgs s_Tree_word) (defBody s_Tree_word) (defScope s_Tree_word) .none kV_Tree_word dc_Tree_word pm_Tree_word an_Tree_word cd_Tree_word ct_Tree_word), sl_Tree_word⟩) (c_Tree_word : PySem.W.codeIn K cd_Tree_word "Tree.word" = true) (k_Tree_word : PySem.W.keepIn K (.ref f_Tree_word) = true)
    {oc_Windows_word kV_Windows_word dc_Windows_word pm_Windows_word cd_Windows_word ct_Windows_word : Value} {od_Windows_word an_Windows_word : Option Addr} {sl_Windows_word : Array (Option Value)}
    (a_Windows_word : PySem.W.findIn K (.ref C_Windows) "word" = some (some (.ref f_Windows_word))) (i_Windows_word : PySem.W.isFn K (.ref f_Windows_word) = true) (l_Windows_word : K.lookup f_Windows_word = some ⟨oc_Windows_word, od_Windows_word, .func (PySem.W.fnOf "word" "Windows.word" (defArgs s_Windows_word) (defBody s_Windows_word) (defScope s_Windows_word) .none kV_Windows_word dc_Windows_word pm_Windows_word an_Windows_word cd_Windows_word ct_Windows_word), sl_Windows_word⟩) (c_Windows_word : PySem.W.codeIn K cd_Windows_word "Windows.word" = true) (k_Windows_word : PySem.W.keepIn K (.ref f_Windows_word) = true)
    {oc_kinds kV_kinds dc_kinds pm_kinds cd_kinds ct_kinds : Value} {od_kinds an_kinds : Option Addr} {sl_kinds : Array (Option Value)}
    (a_kinds : PySem.W.nsIn K mainGlobals "kinds" = some (some (.ref f_kinds))) (l_kinds : K.lookup f_kinds = some ⟨oc_kinds, od_kinds, .func (PySem.W.fnOf "kinds" "kinds" (defArgs s_kinds) (defBody s_kinds) (defScope s_kinds) .none kV_kinds dc_kinds pm_kinds an_kinds cd_kinds ct_kinds), sl_kinds⟩) (c_kinds : PySem.W.codeIn K cd_kinds "kinds" = true) (k_kinds : PySem.W.keepIn K (.ref f_kinds) = true)
    {oc_kind_of kV_kind_of dc_kind_of pm_kind_of cd_kind_of ct_kind_of : Value} {od_kind_of an_kind_of : Option Addr} {sl_kind_of : Array (Option Value)}
    (a_kind_of : PySem.W.nsIn K mainGlobals "kind_of" = some (some (.ref f_kind_of))) (l_kind_of : K.lookup f_kind_of = some ⟨oc_kind_of, od_kind_of, .func (PySem.W.fnOf "kind_of" "kind_of" (defArgs s_kind_of) (defBody s_kind_of) (defScope s_kind_of) .none kV_kind_of dc_kind_of pm_kind_of an_kind_of cd_kind_of ct_kind_of), sl_kind_of⟩) (c_kind_of : PySem.W.codeIn K cd_kind_of "kind_of" = true) (k_kind_of : PySem.W.keepIn K (.ref f_kind_of) = true)
    {oc_law_mix kV_law_mix dc_law_mix pm_law_mix cd_law_mix ct_law_mix : Value} {od_law_mix an_law_mix : Option Addr} {sl_law_mix : Array (Option Value)}
    (a_law_mix : PySem.W.nsIn K mainGlobals "_law_mix" = some (some (.ref f_law_mix))) (l_law_mix : K.lookup f_law_mix = some ⟨oc_law_mix, od_law_mix, .func (PySem.W.fnOf "_law_mix" "_law_mix" (defArgs s_law_mix) (defBody s_law_mix) (defScope s_law_mix) .none kV_law_mix dc_law_mix pm_law_mix an_law_mix cd_law_mix ct_law_mix), sl_law_mix⟩) (c_law_mix : PySem.W.codeIn K cd_law_mix "_law_mix" = true) (k_law_mix : PySem.W.keepIn K (.ref f_law_mix) = true)
    {oc_law_words kV_law_words dc_law_words pm_law_words cd_law_words ct_law_words : Value} {od_law_words an_law_words : Option Addr} {sl_law_words : Array (Option Value)}
    (a_law_words : PySem.W.nsIn K mainGlobals "_law_words" = some (some (.ref f_law_words))) (l_law_words : K.lookup f_law_words = some ⟨oc_law_words, od_law_words, .func (PySem.W.fnOf "_law_words" "_law_words" (defArgs s_law_words) (defBody s_law_words) (defScope s_law_words) .none kV_law_words dc_law_words pm_law_words an_law_words cd_law_words ct_law_words), sl_law_words⟩) (c_law_words : PySem.W.codeIn K cd_law_words "_law_words" = true) (k_law_words : PySem.W.keepIn K (.ref f_law_words) = true)
    {oc_law_word kV_law_word dc_law_word pm_law_word cd_law_word ct_law_word : Value} {od_law_word an_law_word : Option Addr} {sl_law_word : Array (Option Value)}
    (a_law_word : PySem.W.nsIn K mainGlobals "_law_word" = some (some (.ref f_law_word))) (l_law_word : K.lookup f_law_word = some ⟨oc_law_word, od_law_word, .func (PySem.W.fnOf "_law_word" "_law_word" (defArgs s_law_word) (defBody s_law_word) (defScope s_law_word) .none kV_law_word dc_law_word pm_law_word an_law_word cd_law_word ct_law_word), sl_law_word⟩) (c_law_word : PySem.W.codeIn K cd_law_word "_law_word" = true) (k_law_word : PySem.W.keepIn K (.ref f_law_word) = true)
    {oc_law_is_kind kV_law_is_kind dc_law_is_kind pm_law_is_kind cd_law_is_kind ct_law_is_kind : Value} {od_law_is_kind an_law_is_kind : Option Addr} {sl_law_is_kind : Array (Option Value)}
    (a_law_is_kind : PySem.W.nsIn K mainGlobals "_law_is_kind" = some (some (.ref f_law_is_kind))) (l_law_is_kind : K.lookup f_law_is_kind = some ⟨oc_law_is_kind, od_law_is_kind, .func (PySem.W.fnOf "_law_is_kind" "_law_is_kind" (defArgs s_law_is_kind) (defBody s_law_is_kind) (defScope s_law_is_kind) .none kV_law_is_kind dc_law_is_kind pm_law_is_kind an_law_is_kind cd_law_is_kind ct_law_is_kind), sl_law_is_kind⟩) (c_law_is_kind : PySem.W.codeIn K cd_law_is_kind "_law_is_kind" = true) (k_law_is_kind : PySem.W.keepIn K (.ref f_law_is_kind) = true)
    {oc_law_refused kV_law_refused dc_law_refused pm_law_refused cd_law_refused ct_law_refused : Value} {od_law_refused an_law_refused : Option Addr} {sl_law_refused : Array (Option Value)}
    (a_law_refused : PySem.W.nsIn K mainGlobals "_law_refused" = some (some (.ref f_law_refused))) (l_law_refused : K.lookup f_law_refused = some ⟨oc_law_refused, od_law_refused, .func (PySem.W.fnOf "_law_refused" "_law_refused" (defArgs s_law_refused) (defBody s_law_refused) (defScope s_law_refused) .none kV_law_refused dc_law_refused pm_law_refused an_law_refused cd_law_refused ct_law_refused), sl_law_refused⟩) (c_law_refused : PySem.W.codeIn K cd_law_refused "_law_refused" = true) (k_law_refused : PySem.W.keepIn K (.ref f_law_refused) = true)
    {oc_law kV_law dc_law pm_law cd_law ct_law : Value} {od_law an_law : Option Addr} {sl_law : Array (Option Value)}
    (a_law : PySem.W.nsIn K mainGlobals "law" = some (some (.ref f_law))) (l_law : K.lookup f_law = some ⟨oc_law, od_law, .func (PySem.W.fnOf "law" "law" (defArgs s_law) (defBody s_law) (defScope s_law) .none kV_law dc_law pm_law an_law cd_law ct_law), sl_law⟩) (c_law : PySem.W.codeIn K cd_law "law" = true) (k_law : PySem.W.keepIn K (.ref f_law) = true)
    (y_ValueError : PySem.W.nsIn K mainGlobals "ValueError" = some none)
    (y_isinstance : PySem.W.nsIn K mainGlobals "isinstance" = some none)
    (y_len : PySem.W.nsIn K mainGlobals "len" = some none)
    (y_list : PySem.W.nsIn K mainGlobals "list" = some none)
    (y_range : PySem.W.nsIn K mainGlobals "range" = some none)
    (y_str : PySem.W.nsIn K mainGlobals "str" = some none)
    {C_NoKind : Addr} (g_NoKind : PySem.W.nsIn K mainGlobals "NoKind" = some (some (.ref C_NoKind)))
    {C_FloorError : Addr} (g_FloorError : PySem.W.nsIn K mainGlobals "FloorError" = some (some (.ref C_FloorError)))
    {C_NoRoom : Addr} (g_NoRoom : PySem.W.nsIn K mainGlobals "NoRoom" = some (some (.ref C_NoRoom)))
    {C_NoOrder : Addr} (g_NoOrder : PySem.W.nsIn K mainGlobals "NoOrder" = some (some (.ref C_NoOrder)))
    {C_NoText : Addr} (g_NoText : PySem.W.nsIn K mainGlobals "NoText" = some (some (.ref C_NoText)))
    {C_NoFloor : Addr} (g_NoFloor : PySem.W.nsIn K mainGlobals "NoFloor" = some (some (.ref C_NoFloor)))
    {C_NoRow : Addr} (g_NoRow : PySem.W.nsIn K mainGlobals "NoRow" = some (some (.ref C_NoRow)))
    {C_NoName : Addr} (g_NoName : PySem.W.nsIn K mainGlobals "NoName" = some (some (.ref C_NoName)))
    (xx_NoKind : PySem.W.excIn K C_NoKind [.type "ValueError", .type "Exception", .type "BaseException", .type "object"] "ValueError.__new__" = true) (xk_NoKind : PySem.W.keepIn K (.ref C_NoKind) = true) (xs_NoKind : PySem.W.subIn K (.ref C_NoKind) (.type "BaseException") = some true) (xt_NoKind : PySem.W.typeIn K (.ref C_NoKind) = some (.type "type")) (xe_NoKind : L2.ExcC K C_NoKind)
    (xi_FloorError : PySem.W.kitOne K (.ref C_NoKind) (.ref C_FloorError) = some true)
    (xi_NoFloor : PySem.W.kitOne K (.ref C_NoKind) (.ref C_NoFloor) = some false)
    (xi_NoKind : PySem.W.kitOne K (.ref C_NoKind) (.ref C_NoKind) = some true)
    (xi_NoName : PySem.W.kitOne K (.ref C_NoKind) (.ref C_NoName) = some false)
    (xi_NoOrder : PySem.W.kitOne K (.ref C_NoKind) (.ref C_NoOrder) = some false)
    (xi_NoRoom : PySem.W.kitOne K (.ref C_NoKind) (.ref C_NoRoom) = some false)
    (xi_NoRow : PySem.W.kitOne K (.ref C_NoKind) (.ref C_NoRow) = some false)
    (xi_NoText : PySem.W.kitOne K (.ref C_NoKind) (.ref C_NoText) = some false)
    (xi_ValueError : PySem.W.kitOne K (.ref C_NoKind) (.type "ValueError") = some true)
    (xm_FloorError : PySem.W.exmOne K (.ref C_NoKind) (.ref C_FloorError) = some true)
    : ∃ fd : FuncData, (∀ (s : Shared) (v : Value), BindsTo s fd ⟨[v], []⟩ [("_law_script", v)]) ∧ ∀ base : Heap, K.In base → base.Ns mainGlobals mg → (∀ p ∈ cs, LamX.TabB base mg p.1 p.2) → FnOk l.prog w K mg base CX0 4 fa fd ["_law_script"] (spM K x0 (pC true (rSeq rInt) pNil) (retS rBool) m_law) := by
  have e := hfa.symm.trans (PySem.W.mg_of X G a_law)
  cases e
  have z_ValueError := PySem.W.mg_none_of X G y_ValueError
  have z_isinstance := PySem.W.mg_none_of X G y_isinstance
  have z_len := PySem.W.mg_none_of X G y_len
  have z_list := PySem.W.mg_none_of X G y_list
  have z_range := PySem.W.mg_none_of X G y_range
  have z_str := PySem.W.mg_none_of X G y_str
  obtain ⟨ca, caE⟩ : ∃ ca : Str → Option Addr, ca = fun (c : Str) => if c = ("NoKind" : Str) then some C_NoKind else none := ⟨_, rfl⟩
  have caR : ∀ c C, ca c = some C → c = "NoKind" ∧ C = C_NoKind := fun c C h => by
    rw [caE] at h
    dsimp only at h
    split at h
    · exact ⟨by assumption, (Option.some.inj h).symm⟩
    · cases h
  have T_NoKind : RsF K mg ca "NoKind" C_NoKind := ⟨by rw [caE]; exact if_pos rfl, PySem.W.mg_of X G g_NoKind, xx_NoKind, xk_NoKind, xs_NoKind, xt_NoKind⟩
  have hEx : ∀ c C, ca c = some C → ExcC K C := fun c C h => by
    obtain ⟨rfl, rfl⟩ := caR c C h
    exact xe_NoKind
  have hs_FloorError : ∀ c C b, sub_FloorError c = some b → ca c = some C → PySem.W.kitOne K (.ref C) (.ref C_FloorError) = some b := fun c C b h1 h2 => by
    obtain ⟨rfl, rfl⟩ := caR c C h2
    have e0 : sub_FloorError "NoKind" = some true := if_pos rfl
    rw [e0] at h1
    cases h1
    exact xi_FloorError
  have hs_NoFloor : ∀ c C b, sub_NoFloor c = some b → ca c = some C → PySem.W.kitOne K (.ref C) (.ref C_NoFloor) = some b := fun c C b h1 h2 => by
    obtain ⟨rfl, rfl⟩ := caR c C h2
    have e0 : sub_NoFloor "NoKind" = some false := if_pos rfl
    rw [e0] at h1
    cases h1
    exact xi_NoFloor
  have hs_NoKind : ∀ c C b, sub_NoKind c = some b → ca c = some C → PySem.W.kitOne K (.ref C) (.ref C_NoKind) = some b := fun c C b h1 h2 => by
    obtain ⟨rfl, rfl⟩ := caR c C h2
    have e0 : sub_NoKind "NoKind" = some true := if_pos rfl
    rw [e0] at h1
    cases h1
    exact xi_NoKind
  have hs_NoName : ∀ c C b, sub_NoName c = some b → ca c = some C → PySem.W.kitOne K (.ref C) (.ref C_NoName) = some b := fun c C b h1 h2 => by
    obtain ⟨rfl, rfl⟩ := caR c C h2
    have e0 : sub_NoName "NoKind" = some false := if_pos rfl
    rw [e0] at h1
    cases h1
    exact xi_NoName
  have hs_NoOrder : ∀ c C b, sub_NoOrder c = some b → ca c = some C → PySem.W.kitOne K (.ref C) (.ref C_NoOrder) = some b := fun c C b h1 h2 => by
    obtain ⟨rfl, rfl⟩ := caR c C h2
    have e0 : sub_NoOrder "NoKind" = some false := if_pos rfl
    rw [e0] at h1
    cases h1
    exact xi_NoOrder
  have hs_NoRoom : ∀ c C b, sub_NoRoom c = some b → ca c = some C → PySem.W.kitOne K (.ref C) (.ref C_NoRoom) = some b := fun c C b h1 h2 => by
    obtain ⟨rfl, rfl⟩ := caR c C h2
    have e0 : sub_NoRoom "NoKind" = some false := if_pos rfl
    rw [e0] at h1
    cases h1
    exact xi_NoRoom
  have hs_NoRow : ∀ c C b, sub_NoRow c = some b → ca c = some C → PySem.W.kitOne K (.ref C) (.ref C_NoRow) = some b := fun c C b h1 h2 => by
    obtain ⟨rfl, rfl⟩ := caR c C h2
    have e0 : sub_NoRow "NoKind" = some false := if_pos rfl
    rw [e0] at h1
    cases h1
    exact xi_NoRow
  have hs_NoText : ∀ c C b, sub_NoText c = some b → ca c = some C → PySem.W.kitOne K (.ref C) (.ref C_NoText) = some b := fun c C b h1 h2 => by
    obtain ⟨rfl, rfl⟩ := caR c C h2
    have e0 : sub_NoText "NoKind" = some false := if_pos rfl
    rw [e0] at h1
    cases h1
    exact xi_NoText
  have hs_ValueError : ∀ c C b, sub_ValueError c = some b → ca c = some C → PySem.W.kitOne K (.ref C) (.type "ValueError") = some b := fun c C b h1 h2 => by
    obtain ⟨rfl, rfl⟩ := caR c C h2
    have e0 : sub_ValueError "NoKind" = some true := if_pos rfl
    rw [e0] at h1
    cases h1
    exact xi_ValueError
  have he_FloorError : ∀ c C b, sub_FloorError c = some b → ca c = some C → PySem.W.exmOne K (.ref C) (.ref C_FloorError) = some b := fun c C b h1 h2 => by
    obtain ⟨rfl, rfl⟩ := caR c C h2
    have e0 : sub_FloorError "NoKind" = some true := if_pos rfl
    rw [e0] at h1
    cases h1
    exact xm_FloorError
  have hc_FloorError : ∀ c b, sub_FloorError c = some b → ∃ C, ca c = some C := fun c b h => by
    unfold sub_FloorError at h
    split at h
    · exact ⟨C_NoKind, by rw [caE]; exact if_pos (by assumption)⟩
    · cases h
  obtain ⟨kc, kcE⟩ : ∃ kc : Nat → Option Addr, kc = fun i => ([C_Alike, C_Open, C_Tails, C_Windows, C_Tree, C_Pairs] : List Addr)[i]? := ⟨_, rfl⟩
  have kc_Alike : kc 0 = some C_Alike := by rw [kcE]; rfl
  have kc_Open : kc 1 = some C_Open := by rw [kcE]; rfl
  have kc_Tails : kc 2 = some C_Tails := by rw [kcE]; rfl
  have kc_Windows : kc 3 = some C_Windows := by rw [kcE]; rfl
  have kc_Tree : kc 4 = some C_Tree := by rw [kcE]; rfl
  have kc_Pairs : kc 5 = some C_Pairs := by rw [kcE]; rfl
  have kcR : ∀ i C, kc i = some C → (i = 0 ∧ C = C_Alike) ∨ (i = 1 ∧ C = C_Open) ∨ (i = 2 ∧ C = C_Tails) ∨ (i = 3 ∧ C = C_Windows) ∨ (i = 4 ∧ C = C_Tree) ∨ (i = 5 ∧ C = C_Pairs) := fun i C h => by
    rw [kcE] at h
    match i, h with
    | 0, h => exact .inl ⟨rfl, (Option.some.inj h).symm⟩
    | 1, h => exact .inr (.inl ⟨rfl, (Option.some.inj h).symm⟩)
    | 2, h => exact .inr (.inr (.inl ⟨rfl, (Option.some.inj h).symm⟩))
    | 3, h => exact .inr (.inr (.inr (.inl ⟨rfl, (Option.some.inj h).symm⟩)))
    | 4, h => exact .inr (.inr (.inr (.inr (.inl ⟨rfl, (Option.some.inj h).symm⟩))))
    | 5, h => exact .inr (.inr (.inr (.inr (.inr (⟨rfl, (Option.some.inj h).symm⟩)))))
    | n + 6, h => exact absurd h (by simp)
  have hKc : ∀ i C, kc i = some C → C8.InsC K C := fun i C h => by
    rcases kcR i C h with ⟨rfl, rfl⟩ | ⟨rfl, rfl⟩ | ⟨rfl, rfl⟩ | ⟨rfl, rfl⟩ | ⟨rfl, rfl⟩ | ⟨rfl, rfl⟩
    · exact kk_Alike
    · exact kk_Open
    · exact kk_Tails
    · exact kk_Windows
    · exact kk_Tree
    · exact kk_Pairs
  have hk_Alike : ∀ i C b, subk_Alike i = some b → kc i = some C → PySem.W.kitOne K (.ref C) (.ref C_Alike) = some b := fun i C b h1 h => by
    rcases kcR i C h with ⟨rfl, rfl⟩ | ⟨rfl, rfl⟩ | ⟨rfl, rfl⟩ | ⟨rfl, rfl⟩ | ⟨rfl, rfl⟩ | ⟨rfl, rfl⟩
    · have e0 : subk_Alike 0 = some true := rfl
      rw [e0] at h1
      cases h1
      exact xq_Alike_Alike
    · have e0 : subk_Alike 1 = some false := rfl
      rw [e0] at h1
      cases h1
      exact xq_Alike_Open
    · have e0 : subk_Alike 2 = some false := rfl
      rw [e0] at h1
      cases h1
      exact xq_Alike_Tails
    · have e0 : subk_Alike 3 = some false := rfl
      rw [e0] at h1
      cases h1
      exact xq_Alike_Windows
    · have e0 : subk_Alike 4 = some false := rfl
      rw [e0] at h1
      cases h1
      exact xq_Alike_Tree
    · have e0 : subk_Alike 5 = some false := rfl
      rw [e0] at h1
      cases h1
      exact xq_Alike_Pairs
  have hk_Floor : ∀ i C b, subk_Floor i = some b → kc i = some C → PySem.W.kitOne K (.ref C) (.ref C_Floor) = some b := fun i C b h1 h => by
    rcases kcR i C h with ⟨rfl, rfl⟩ | ⟨rfl, rfl⟩ | ⟨rfl, rfl⟩ | ⟨rfl, rfl⟩ | ⟨rfl, rfl⟩ | ⟨rfl, rfl⟩
    · have e0 : subk_Floor 0 = some true := rfl
      rw [e0] at h1
      cases h1
      exact xq_Floor_Alike
    · have e0 : subk_Floor 1 = some true := rfl
      rw [e0] at h1
      cases h1
      exact xq_Floor_Open
    · have e0 : subk_Floor 2 = some true := rfl
      rw [e0] at h1
      cases h1
      exact xq_Floor_Tails
    · have e0 : subk_Floor 3 = some true := rfl
      rw [e0] at h1
      cases h1
      exact xq_Floor_Windows
    · have e0 : subk_Floor 4 = some true := rfl
      rw [e0] at h1
      cases h1
      exact xq_Floor_Tree
    · have e0 : subk_Floor 5 = some true := rfl
      rw [e0] at h1
      cases h1
      exact xq_Floor_Pairs
  have hk_Open : ∀ i C b, subk_Open i = some b → kc i = some C → PySem.W.kitOne K (.ref C) (.ref C_Open) = some b := fun i C b h1 h => by
    rcases kcR i C h with ⟨rfl, rfl⟩ | ⟨rfl, rfl⟩ | ⟨rfl, rfl⟩ | ⟨rfl, rfl⟩ | ⟨rfl, rfl⟩ | ⟨rfl, rfl⟩
    · have e0 : subk_Open 0 = some false := rfl
      rw [e0] at h1
      cases h1
      exact xq_Open_Alike
    · have e0 : subk_Open 1 = some true := rfl
      rw [e0] at h1
      cases h1
      exact xq_Open_Open
    · have e0 : subk_Open 2 = some false := rfl
      rw [e0] at h1
      cases h1
      exact xq_Open_Tails
    · have e0 : subk_Open 3 = some false := rfl
      rw [e0] at h1
      cases h1
      exact xq_Open_Windows
    · have e0 : subk_Open 4 = some false := rfl
      rw [e0] at h1
      cases h1
      exact xq_Open_Tree
    · have e0 : subk_Open 5 = some false := rfl
      rw [e0] at h1
      cases h1
      exact xq_Open_Pairs
  have hk_Pairs : ∀ i C b, subk_Pairs i = some b → kc i = some C → PySem.W.kitOne K (.ref C) (.ref C_Pairs) = some b := fun i C b h1 h => by
    rcases kcR i C h with ⟨rfl, rfl⟩ | ⟨rfl, rfl⟩ | ⟨rfl, rfl⟩ | ⟨rfl, rfl⟩ | ⟨rfl, rfl⟩ | ⟨rfl, rfl⟩
    · have e0 : subk_Pairs 0 = some false := rfl
      rw [e0] at h1
      cases h1
      exact xq_Pairs_Alike
    · have e0 : subk_Pairs 1 = some false := rfl
      rw [e0] at h1
      cases h1
      exact xq_Pairs_Open
    · have e0 : subk_Pairs 2 = some false := rfl
      rw [e0] at h1
      cases h1
      exact xq_Pairs_Tails
    · have e0 : subk_Pairs 3 = some false := rfl
      rw [e0] at h1
      cases h1
      exact xq_Pairs_Windows
    · have e0 : subk_Pairs 4 = some false := rfl
      rw [e0] at h1
      cases h1
      exact xq_Pairs_Tree
    · have e0 : subk_Pairs 5 = some true := rfl
      rw [e0] at h1
      cases h1
      exact xq_Pairs_Pairs
  have hk_Tails : ∀ i C b, subk_Tails i = some b → kc i = some C → PySem.W.kitOne K (.ref C) (.ref C_Tails) = some b := fun i C b h1 h => by
    rcases kcR i C h with ⟨rfl, rfl⟩ | ⟨rfl, rfl⟩ | ⟨rfl, rfl⟩ | ⟨rfl, rfl⟩ | ⟨rfl, rfl⟩ | ⟨rfl, rfl⟩
    · have e0 : subk_Tails 0 = some false := rfl
      rw [e0] at h1
      cases h1
      exact xq_Tails_Alike
    · have e0 : subk_Tails 1 = some false := rfl
      rw [e0] at h1
      cases h1
      exact xq_Tails_Open
    · have e0 : subk_Tails 2 = some true := rfl
      rw [e0] at h1
      cases h1
      exact xq_Tails_Tails
    · have e0 : subk_Tails 3 = some false := rfl
      rw [e0] at h1
      cases h1
      exact xq_Tails_Windows
    · have e0 : subk_Tails 4 = some false := rfl
      rw [e0] at h1
      cases h1
      exact xq_Tails_Tree
    · have e0 : subk_Tails 5 = some false := rfl
      rw [e0] at h1
      cases h1
      exact xq_Tails_Pairs
  have hk_Tree : ∀ i C b, subk_Tree i = some b → kc i = some C → PySem.W.kitOne K (.ref C) (.ref C_Tree) = some b := fun i C b h1 h => by
    rcases kcR i C h with ⟨rfl, rfl⟩ | ⟨rfl, rfl⟩ | ⟨rfl, rfl⟩ | ⟨rfl, rfl⟩ | ⟨rfl, rfl⟩ | ⟨rfl, rfl⟩
    · have e0 : subk_Tree 0 = some false := rfl
      rw [e0] at h1
      cases h1
      exact xq_Tree_Alike
    · have e0 : subk_Tree 1 = some false := rfl
      rw [e0] at h1
      cases h1
      exact xq_Tree_Open
    · have e0 : subk_Tree 2 = some false := rfl
      rw [e0] at h1
      cases h1
      exact xq_Tree_Tails
    · have e0 : subk_Tree 3 = some false := rfl
      rw [e0] at h1
      cases h1
      exact xq_Tree_Windows
    · have e0 : subk_Tree 4 = some true := rfl
      rw [e0] at h1
      cases h1
      exact xq_Tree_Tree
    · have e0 : subk_Tree 5 = some false := rfl
      rw [e0] at h1
      cases h1
      exact xq_Tree_Pairs
  have hk_Turns : ∀ i C b, subk_Turns i = some b → kc i = some C → PySem.W.kitOne K (.ref C) (.ref C_Turns) = some b := fun i C b h1 h => by
    rcases kcR i C h with ⟨rfl, rfl⟩ | ⟨rfl, rfl⟩ | ⟨rfl, rfl⟩ | ⟨rfl, rfl⟩ | ⟨rfl, rfl⟩ | ⟨rfl, rfl⟩
    · have e0 : subk_Turns 0 = some false := rfl
      rw [e0] at h1
      cases h1
      exact xq_Turns_Alike
    · have e0 : subk_Turns 1 = some false := rfl
      rw [e0] at h1
      cases h1
      exact xq_Turns_Open
    · have e0 : subk_Turns 2 = some false := rfl
      rw [e0] at h1
      cases h1
      exact xq_Turns_Tails
    · have e0 : subk_Turns 3 = some false := rfl
      rw [e0] at h1
      cases h1
      exact xq_Turns_Windows
    · have e0 : subk_Turns 4 = some true := rfl
      rw [e0] at h1
      cases h1
      exact xq_Turns_Tree
    · have e0 : subk_Turns 5 = some true := rfl
      rw [e0] at h1
      cases h1
      exact xq_Turns_Pairs
  have hk_Windows : ∀ i C b, subk_Windows i = some b → kc i = some C → PySem.W.kitOne K (.ref C) (.ref C_Windows) = some b := fun i C b h1 h => by
    rcases kcR i C h with ⟨rfl, rfl⟩ | ⟨rfl, rfl⟩ | ⟨rfl, rfl⟩ | ⟨rfl, rfl⟩ | ⟨rfl, rfl⟩ | ⟨rfl, rfl⟩
    · have e0 : subk_Windows 0 = some false := rfl
      rw [e0] at h1
      cases h1
      exact xq_Windows_Alike
    · have e0 : subk_Windows 1 = some false := rfl
      rw [e0] at h1
      cases h1
      exact xq_Windows_Open
    · have e0 : subk_Windows 2 = some false := rfl
      rw [e0] at h1
      cases h1
      exact xq_Windows_Tails
    · have e0 : subk_Windows 3 = some true := rfl
      rw [e0] at h1
      cases h1
      exact xq_Windows_Windows
    · have e0 : subk_Windows 4 = some false := rfl
      rw [e0] at h1
      cases h1
      exact xq_Windows_Tree
    · have e0 : subk_Windows 5 = some false := rfl
      rw [e0] at h1
      cases h1
      exact xq_Windows_Pairs
  have F_Alike_word := fun_mk (st := s_Alike_word) l_Alike_word c_Alike_word k_Alike_word
  have b_Alike_word := F_Alike_word.binds (ps := ["self"]) fun _ _ _ _ _ _ us hl => match us, hl with | [_], _ => rfl
  have F_Open_word := fun_mk (st := s_Open_word) l_Open_word c_Open_word k_Open_word
  have b_Open_word := F_Open_word.binds (ps := ["self"]) fun _ _ _ _ _ _ us hl => match us, hl with | [_], _ => rfl
  have F_Pairs_word := fun_mk (st := s_Pairs_word) l_Pairs_word c_Pairs_word k_Pairs_word
  have b_Pairs_word := F_Pairs_word.binds (ps := ["self"]) fun _ _ _ _ _ _ us hl => match us, hl with | [_], _ => rfl
  have F_Tails_word := fun_mk (st := s_Tails_word) l_Tails_word c_Tails_word k_Tails_word
  have b_Tails_word := F_Tails_word.binds (ps := ["self"]) fun _ _ _ _ _ _ us hl => match us, hl with | [_], _ => rfl
  have F_Tree_word := fun_mk (st := s_Tree_word) l_Tree_word c_Tree_word k_Tree_word
  have b_Tree_word := F_Tree_word.binds (ps := ["self"]) fun _ _ _ _ _ _ us hl => match us, hl with | [_], _ => rfl
  have F_Windows_word := fun_mk (st := s_Windows_word) l_Windows_word c_Windows_word k_Windows_word
  have b_Windows_word := F_Windows_word.binds (ps := ["self"]) fun _ _ _ _ _ _ us hl => match us, hl with | [_], _ => rfl
  have F_kinds := fun_mk (st := s_kinds) l_kinds c_kinds k_kinds
  have b_kinds := F_kinds.binds (ps := []) fun _ _ _ _ _ _ us hl => match us, hl with | [], _ => rfl
  have F_kind_of := fun_mk (st := s_kind_of) l_kind_of c_kind_of k_kind_of
  have b_kind_of := F_kind_of.binds (ps := ["word"]) fun _ _ _ _ _ _ us hl => match us, hl with | [_], _ => rfl
  have F_law_mix := fun_mk (st := s_law_mix) l_law_mix c_law_mix k_law_mix
  have b_law_mix := F_law_mix.binds (ps := ["_law_number", "_law_k"]) fun _ _ _ _ _ _ us hl => match us, hl with | [_, _], _ => rfl
  have F_law_words := fun_mk (st := s_law_words) l_law_words c_law_words k_law_words
  have b_law_words := F_law_words.binds (ps := []) fun _ _ _ _ _ _ us hl => match us, hl with | [], _ => rfl
  have F_law_word := fun_mk (st := s_law_word) l_law_word c_law_word k_law_word
  have b_law_word := F_law_word.binds (ps := ["_law_cell"]) fun _ _ _ _ _ _ us hl => match us, hl with | [_], _ => rfl
  have F_law_is_kind := fun_mk (st := s_law_is_kind) l_law_is_kind c_law_is_kind k_law_is_kind
  have b_law_is_kind := F_law_is_kind.binds (ps := ["_law_kind", "_law_at"]) fun _ _ _ _ _ _ us hl => match us, hl with | [_, _], _ => rfl
  have F_law_refused := fun_mk (st := s_law_refused) l_law_refused c_law_refused k_law_refused
  have b_law_refused := F_law_refused.binds (ps := ["_law_word_here"]) fun _ _ _ _ _ _ us hl => match us, hl with | [_], _ => rfl
  have F_law := fun_mk (st := s_law) l_law c_law k_law
  have b_law := F_law.binds (ps := ["_law_script"]) fun _ _ _ _ _ _ us hl => match us, hl with | [_], _ => rfl
  refine ⟨PySem.W.fnOf "law" "law" (defArgs s_law) (defBody s_law) (defScope s_law) .none kV_law dc_law pm_law an_law cd_law ct_law, fun s v => .of_eq rfl, fun base _ _ hcs => ?_⟩
  have C_Alike_word := ok_Alike_word (Pg := l.prog) (w := w) (base := base) (mg := mg) (kc := kc) F_Alike_word
  have C_Open_word := ok_Open_word (Pg := l.prog) (w := w) (base := base) (mg := mg) (kc := kc) F_Open_word
  have C_Pairs_word := ok_Pairs_word (Pg := l.prog) (w := w) (base := base) (mg := mg) (kc := kc) F_Pairs_word
  have C_Tails_word := ok_Tails_word (Pg := l.prog) (w := w) (base := base) (mg := mg) (kc := kc) F_Tails_word
  have C_Tree_word := ok_Tree_word (Pg := l.prog) (w := w) (base := base) (mg := mg) (kc := kc) F_Tree_word
  have C_Windows_word := ok_Windows_word (Pg := l.prog) (w := w) (base := base) (mg := mg) (kc := kc) F_Windows_word
  have C_kinds := ok_kinds (Pg := l.prog) (w := w) (base := base) F_kinds b_kinds (PySem.W.mg_of X G a_kinds) (PySem.W.mg_of X G g_Alike) mk_Alike kc_Alike (PySem.W.mg_of X G g_Open) mk_Open kc_Open (PySem.W.mg_of X G g_Tails) mk_Tails kc_Tails (PySem.W.mg_of X G g_Windows) mk_Windows kc_Windows (PySem.W.mg_of X G g_Tree) mk_Tree kc_Tree (PySem.W.mg_of X G g_Pairs) mk_Pairs kc_Pairs
  have T_word : MtT l.prog w K mg base CX0 kc "word" 1 (fun i => spM K x0 (pC true (rK (kone kc i)) pNil) (retS rStr) (Mt_word i)) := ⟨fun i C h => by
    rcases kcR i C h with ⟨rfl, rfl⟩ | ⟨rfl, rfl⟩ | ⟨rfl, rfl⟩ | ⟨rfl, rfl⟩ | ⟨rfl, rfl⟩ | ⟨rfl, rfl⟩
    · exact ⟨kk_Alike.cl, _, _, _, ⟨a_Alike_word, i_Alike_word, k_Alike_word⟩, C_Alike_word, b_Alike_word⟩
    · exact ⟨kk_Open.cl, _, _, _, ⟨a_Open_word, i_Open_word, k_Open_word⟩, C_Open_word, b_Open_word⟩
    · exact ⟨kk_Tails.cl, _, _, _, ⟨a_Tails_word, i_Tails_word, k_Tails_word⟩, C_Tails_word, b_Tails_word⟩
    · exact ⟨kk_Windows.cl, _, _, _, ⟨a_Windows_word, i_Windows_word, k_Windows_word⟩, C_Windows_word, b_Windows_word⟩
    · exact ⟨kk_Tree.cl, _, _, _, ⟨a_Tree_word, i_Tree_word, k_Tree_word⟩, C_Tree_word, b_Tree_word⟩
    · exact ⟨kk_Pairs.cl, _, _, _, ⟨a_Pairs_word, i_Pairs_word, k_Pairs_word⟩, C_Pairs_word, b_Pairs_word⟩⟩
  have C_kind_of := ok_kind_of (Pg := l.prog) (w := w) (base := base) F_kind_of b_kind_of (PySem.W.mg_of X G a_kind_of) T_word T_NoKind C_kinds
  have C_law_mix := ok_law_mix (Pg := l.prog) (w := w) (base := base) F_law_mix b_law_mix (PySem.W.mg_of X G a_law_mix)
  have C_law_words := ok_law_words (Pg := l.prog) (w := w) (base := base) F_law_words b_law_words (PySem.W.mg_of X G a_law_words)
  have C_law_word := ok_law_word (Pg := l.prog) (w := w) (base := base) F_law_word b_law_word (PySem.W.mg_of X G a_law_word) z_len z_range C_law_words C_law_mix
  have C_law_is_kind := ok_law_is_kind (Pg := l.prog) (w := w) (base := base) F_law_is_kind b_law_is_kind (PySem.W.mg_of X G a_law_is_kind) hKc (PySem.W.mg_of X G g_Floor) hk_Floor (PySem.W.mg_of X G g_Turns) hk_Turns (PySem.W.mg_of X G g_Alike) hk_Alike (PySem.W.mg_of X G g_Open) hk_Open (PySem.W.mg_of X G g_Tails) hk_Tails (PySem.W.mg_of X G g_Windows) hk_Windows (PySem.W.mg_of X G g_Tree) hk_Tree (PySem.W.mg_of X G g_Pairs) hk_Pairs T_word z_isinstance z_str z_range C_law_words
  have C_law_refused := ok_law_refused (Pg := l.prog) (w := w) (base := base) F_law_refused b_law_refused (PySem.W.mg_of X G a_law_refused) z_isinstance z_ValueError hEx (PySem.W.mg_of X G g_FloorError) hs_FloorError (PySem.W.mg_of X G g_NoRoom) hs_NoRoom (PySem.W.mg_of X G g_NoOrder) hs_NoOrder (PySem.W.mg_of X G g_NoText) hs_NoText (PySem.W.mg_of X G g_NoFloor) hs_NoFloor (PySem.W.mg_of X G g_NoRow) hs_NoRow (PySem.W.mg_of X G g_NoName) hs_NoName (PySem.W.mg_of X G g_NoKind) hs_NoKind hs_ValueError he_FloorError hc_FloorError C_kind_of
  exact fnlaw (Pg := l.prog) (w := w) (base := base) F_law b_law (PySem.W.mg_of X G a_law) (PySem.W.mg_of X G g_Alike) mk_Alike kc_Alike (PySem.W.mg_of X G g_Open) mk_Open kc_Open (PySem.W.mg_of X G g_Tails) mk_Tails kc_Tails (PySem.W.mg_of X G g_Windows) mk_Windows kc_Windows (PySem.W.mg_of X G g_Tree) mk_Tree kc_Tree (PySem.W.mg_of X G g_Pairs) mk_Pairs kc_Pairs z_range z_isinstance z_list z_len C_kinds C_law_is_kind C_law_word C_law_words C_kind_of C_law_refused
end Gen
/-! ### the end -/
open PySem PySem.W PyProof.Rows
set_option maxHeartbeats 0 in
theorem PySem.Challenge.cw_leastfloor_k71_the_six_kinds_holds : PySem.Challenge.rw_leastfloor_k71_the_six_kinds.Holds := by
  w_on; o_law; k_head; (case hw => w_witness2)
  k_fill
  refine L2.walk_ofB (l := PySem.Challenge.rw_leastfloor_k71_the_six_kinds) (n := 63) (k := 4) (x := "_law_script") (CX := fun _ => L2.CX0) (sp := fun w => (Fx.spM _ Fx.x0 (Fx.pC true (Fx.rSeq Fx.rInt) Fx.pNil) (Fx.retS Fx.rBool) Gen.m_law)) rfl (by decide) rfl ⟨rfl, by decide, by decide⟩ (fun w h Y => PySem.W.km_in_of Y) ?F (fun _ _ a ns hl hb _ hS => Fx.law_end hl hS (Law.holds ns hl hb)) (fun _ _ _ _ _ h => h)
  case F =>
    intro w mg fa h KX G hmg
    refine' Fx.no_tabs (T := fun base p => LamX.TabB base mg p.1 p.2) (Gen.all_mk (cs := []) KX G hmg ?g_Floor ?g_Alike ?g_Open ?g_Tails ?g_Windows ?g_Turns ?g_Tree ?g_Pairs ?mk_Alike ?kk_Alike ?mk_Open ?kk_Open ?mk_Tails ?kk_Tails ?mk_Windows ?kk_Windows ?mk_Tree ?kk_Tree ?mk_Pairs ?kk_Pairs ?xq_Alike_Alike ?xq_Alike_Open ?xq_Alike_Tails ?xq_Alike_Windows ?xq_Alike_Tree ?xq_Alike_Pairs ?xq_Floor_Alike ?xq_Floor_Open ?xq_Floor_Tails ?xq_Floor_Windows ?xq_Floor_Tree ?xq_Floor_Pairs ?xq_Open_Alike ?xq_Open_Open ?xq_Open_Tails ?xq_Open_Windows ?xq_Open_Tree ?xq_Open_Pairs ?xq_Pairs_Alike ?xq_Pairs_Open ?xq_Pairs_Tails ?xq_Pairs_Windows ?xq_Pairs_Tree ?xq_Pairs_Pairs ?xq_Tails_Alike ?xq_Tails_Open ?xq_Tails_Tails ?xq_Tails_Windows ?xq_Tails_Tree ?xq_Tails_Pairs ?xq_Tree_Alike ?xq_Tree_Open ?xq_Tree_Tails ?xq_Tree_Windows ?xq_Tree_Tree ?xq_Tree_Pairs ?xq_Turns_Alike ?xq_Turns_Open ?xq_Turns_Tails ?xq_Turns_Windows ?xq_Turns_Tree ?xq_Turns_Pairs ?xq_Windows_Alike ?xq_Windows_Open ?xq_Windows_Tails ?xq_Windows_Windows ?xq_Windows_Tree ?xq_Windows_Pairs ?a_Alike_word ?i_Alike_word ?l_Alike_word ?c_Alike_word ?k_Alike_word ?a_Open_word ?i_Open_word ?l_Open_word ?c_Open_word ?k_Open_word ?a_Pairs_word ?i_Pairs_word ?l_Pairs_word ?c_Pairs_word ?k_Pairs_word ?a_Tails_word ?i_Tails_word ?l_Tails_word ?c_Tails_word ?k_Tails_word ?a_Tree_word ?i_Tree_word ?l_Tree_word ?c_Tree_word ?k_Tree_word ?a_Windows_word ?i_Windows_word ?l_Windows_word ?c_Windows_word ?k_Windows_word ?a_kinds ?l_kinds ?c_kinds ?k_kinds ?a_kind_of ?l_kind_of ?c_kind_of ?k_kind_of ?a_law_mix ?l_law_mix ?c_law_mix ?k_law_mix ?a_law_words ?l_law_words ?c_law_words ?k_law_words ?a_law_word ?l_law_word ?c_law_word ?k_law_word ?a_law_is_kind ?l_law_is_kind ?c_law_is_kind ?k_law_is_kind ?a_law_refused ?l_law_refused ?c_law_refused ?k_law_refused ?a_law ?l_law ?c_law ?k_law ?y_ValueError ?y_isinstance ?y_len ?y_list ?y_range ?y_str ?g_NoKind ?g_FloorError ?g_NoRoom ?g_NoOrder ?g_NoText ?g_NoFloor ?g_NoRow ?g_NoName ?xx_NoKind ?xk_NoKind ?xs_NoKind ?xt_NoKind ?xe_NoKind ?xi_FloorError ?xi_NoFloor ?xi_NoKind ?xi_NoName ?xi_NoOrder ?xi_NoRoom ?xi_NoRow ?xi_NoText ?xi_ValueError ?xm_FloorError)
    (case g_Floor => k_is); (case g_Alike => k_is); (case g_Open => k_is); (case g_Tails => k_is); (case g_Windows => k_is); (case g_Turns => k_is); (case g_Tree => k_is); (case g_Pairs => k_is); (case mk_Alike => exact ⟨by k_is, by k_is, by k_is⟩); (case kk_Alike => exact ⟨⟨by k_is, by k_is, by k_is, by k_is⟩, by k_is, by k_is, by k_is, by k_is, by first | rfl | k_is⟩); (case mk_Open => exact ⟨by k_is, by k_is, by k_is⟩); (case kk_Open => exact ⟨⟨by k_is, by k_is, by k_is, by k_is⟩, by k_is, by k_is, by k_is, by k_is, by first | rfl | k_is⟩); (case mk_Tails => exact ⟨by k_is, by k_is, by k_is⟩); (case kk_Tails => exact ⟨⟨by k_is, by k_is, by k_is, by k_is⟩, by k_is, by k_is, by k_is, by k_is, by first | rfl | k_is⟩); (case mk_Windows => exact ⟨by k_is, by k_is, by k_is⟩); (case kk_Windows => exact ⟨⟨by k_is, by k_is, by k_is, by k_is⟩, by k_is, by k_is, by k_is, by k_is, by first | rfl | k_is⟩); (case mk_Tree => exact ⟨by k_is, by k_is, by k_is⟩); (case kk_Tree => exact ⟨⟨by k_is, by k_is, by k_is, by k_is⟩, by k_is, by k_is, by k_is, by k_is, by first | rfl | k_is⟩); (case mk_Pairs => exact ⟨by k_is, by k_is, by k_is⟩); (case kk_Pairs => exact ⟨⟨by k_is, by k_is, by k_is, by k_is⟩, by k_is, by k_is, by k_is, by k_is, by first | rfl | k_is⟩); (case xq_Alike_Alike => first | k_is | rfl); (case xq_Alike_Open => first | k_is | rfl); (case xq_Alike_Tails => first | k_is | rfl); (case xq_Alike_Windows => first | k_is | rfl); (case xq_Alike_Tree => first | k_is | rfl); (case xq_Alike_Pairs => first | k_is | rfl); (case xq_Floor_Alike => first | k_is | rfl); (case xq_Floor_Open => first | k_is | rfl); (case xq_Floor_Tails => first | k_is | rfl); (case xq_Floor_Windows => first | k_is | rfl); (case xq_Floor_Tree => first | k_is | rfl); (case xq_Floor_Pairs => first | k_is | rfl); (case xq_Open_Alike => first | k_is | rfl); (case xq_Open_Open => first | k_is | rfl); (case xq_Open_Tails => first | k_is | rfl); (case xq_Open_Windows => first | k_is | rfl); (case xq_Open_Tree => first | k_is | rfl); (case xq_Open_Pairs => first | k_is | rfl); (case xq_Pairs_Alike => first | k_is | rfl); (case xq_Pairs_Open => first | k_is | rfl); (case xq_Pairs_Tails => first | k_is | rfl); (case xq_Pairs_Windows => first | k_is | rfl); (case xq_Pairs_Tree => first | k_is | rfl); (case xq_Pairs_Pairs => first | k_is | rfl); (case xq_Tails_Alike => first | k_is | rfl); (case xq_Tails_Open => first | k_is | rfl); (case xq_Tails_Tails => first | k_is | rfl); (case xq_Tails_Windows => first | k_is | rfl); (case xq_Tails_Tree => first | k_is | rfl); (case xq_Tails_Pairs => first | k_is | rfl); (case xq_Tree_Alike => first | k_is | rfl); (case xq_Tree_Open => first | k_is | rfl); (case xq_Tree_Tails => first | k_is | rfl); (case xq_Tree_Windows => first | k_is | rfl); (case xq_Tree_Tree => first | k_is | rfl); (case xq_Tree_Pairs => first | k_is | rfl); (case xq_Turns_Alike => first | k_is | rfl); (case xq_Turns_Open => first | k_is | rfl); (case xq_Turns_Tails => first | k_is | rfl); (case xq_Turns_Windows => first | k_is | rfl); (case xq_Turns_Tree => first | k_is | rfl); (case xq_Turns_Pairs => first | k_is | rfl); (case xq_Windows_Alike => first | k_is | rfl); (case xq_Windows_Open => first | k_is | rfl); (case xq_Windows_Tails => first | k_is | rfl); (case xq_Windows_Windows => first | k_is | rfl); (case xq_Windows_Tree => first | k_is | rfl); (case xq_Windows_Pairs => first | k_is | rfl); (case a_Alike_word => k_is); (case i_Alike_word => k_is); (case l_Alike_word => k_is); (case c_Alike_word => k_is); (case k_Alike_word => k_is); (case a_Open_word => k_is); (case i_Open_word => k_is); (case l_Open_word => k_is); (case c_Open_word => k_is); (case k_Open_word => k_is); (case a_Pairs_word => k_is); (case i_Pairs_word => k_is); (case l_Pairs_word => k_is); (case c_Pairs_word => k_is); (case k_Pairs_word => k_is); (case a_Tails_word => k_is); (case i_Tails_word => k_is); (case l_Tails_word => k_is); (case c_Tails_word => k_is); (case k_Tails_word => k_is); (case a_Tree_word => k_is); (case i_Tree_word => k_is); (case l_Tree_word => k_is); (case c_Tree_word => k_is); (case k_Tree_word => k_is); (case a_Windows_word => k_is); (case i_Windows_word => k_is); (case l_Windows_word => k_is); (case c_Windows_word => k_is); (case k_Windows_word => k_is); (case a_kinds => k_is); (case l_kinds => k_is); (case c_kinds => k_is); (case k_kinds => k_is); (case a_kind_of => k_is); (case l_kind_of => k_is); (case c_kind_of => k_is); (case k_kind_of => k_is); (case a_law_mix => k_is); (case l_law_mix => k_is); (case c_law_mix => k_is); (case k_law_mix => k_is); (case a_law_words => k_is); (case l_law_words => k_is); (case c_law_words => k_is); (case k_law_words => k_is); (case a_law_word => k_is); (case l_law_word => k_is); (case c_law_word => k_is); (case k_law_word => k_is); (case a_law_is_kind => k_is); (case l_law_is_kind => k_is); (case c_law_is_kind => k_is); (case k_law_is_kind => k_is); (case a_law_refused => k_is); (case l_law_refused => k_is); (case c_law_refused => k_is); (case k_law_refused => k_is); (case a_law => k_is); (case l_law => k_is); (case c_law => k_is); (case k_law => k_is); (case y_ValueError => k_is); (case y_isinstance => k_is); (case y_len => k_is); (case y_list => k_is); (case y_range => k_is); (case y_str => k_is); (case g_NoKind => k_is); (case g_FloorError => k_is); (case g_NoRoom => k_is); (case g_NoOrder => k_is); (case g_NoText => k_is); (case g_NoFloor => k_is); (case g_NoRow => k_is); (case g_NoName => k_is); (case xx_NoKind => k_exc); (case xk_NoKind => k_is); (case xs_NoKind => k_is); (case xt_NoKind => k_is); (case xe_NoKind => exact ⟨by k_is, by k_is, by k_is, by k_is, by k_is, by k_is, by k_is, by k_is⟩); (case xi_FloorError => first | rfl | k_is); (case xi_NoFloor => first | rfl | k_is); (case xi_NoKind => first | rfl | k_is); (case xi_NoName => first | rfl | k_is); (case xi_NoOrder => first | rfl | k_is); (case xi_NoRoom => first | rfl | k_is); (case xi_NoRow => first | rfl | k_is); (case xi_NoText => first | rfl | k_is); (case xi_ValueError => first | rfl | k_is); (case xm_FloorError => exact PySem.W.exm_ref (by k_is) (by k_is) (by k_is) (by first | rfl | k_is))
