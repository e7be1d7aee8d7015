import PyProof.Rows.All
import Wide.All
import OpenK.AllK
import Wide.FinOn
import HandS.ForMost
import HandS.Defaults
import HandS.IsInst
import HandS.Codes
import HandS.DictComp
import HandS.Flow
import HandS.SetKeys
import HandS.WideBits
import HandS.HeadEnd
import HandS.HeadHook2
import HandS.Head2
import HandS.SortInts
import HandS.Strs
import HandS.SetFor
import PyProof.Rows.SortShellAny
import PyProof.Rows.SetFrom
import PyProof.DictUpdate
import PyProof.MinMaxWalk
import PyProof.Draws
import PyProof.EnumMake
import PyProof.ListRange
import PyProof.Rows.Range3
import HandS.Conv
import PyProof.Rows.StrMeet
import PySem.Challenge.RW_sameminute_k90_whole_more_minutes_told_s
set_option Elab.async false
set_option linter.all false
set_option maxRecDepth 100000
set_option maxHeartbeats 4000000
/-! Ly: a layer over HandS: data told by frozen heaps (Rep), what an expression evaluates to (Ev), growth of heaps (Grow) -/
namespace Ly
open PySem PySem.Spec PyProof.Rows L2 SX

/-! ### growth -/
/-- F: what stands still, within the heap H; M: what may change -/
structure Grow (M : Addr → Prop) (F H F' H' : Hp) : Prop where
  fr : Same F F'
  sub : Same F' H'
  hp : ∀ a o, ¬ M a → H a = some o → H' a = some o
  new : ∀ a o, H a = some o → F' a = F a
  dom : ∀ a o, H a = some o → ∃ o', H' a = some o'
abbrev Gr : Hp → Hp → Hp → Hp → Prop := Grow (fun _ => False)
section
variable {M : Addr → Prop} {F H F1 H1 F2 H2 F' H' : Hp} {p : Addr} {o : HO}
theorem Grow.refl (s : Same F H) : Grow M F H F H := ⟨Same.refl F, s, fun _ _ _ e => e, fun _ _ _ => rfl, fun _ o e => ⟨o, e⟩⟩
theorem Grow.trans (a : Grow M F H F1 H1) (b : Grow M F1 H1 F2 H2) : Grow M F H F2 H2 where
  fr := a.fr.trans b.fr
  sub := b.sub
  hp := fun c o m e => b.hp c o m (a.hp c o m e)
  new := fun c o e => by
    obtain ⟨o', e'⟩ := a.dom c o e
    rw [b.new c o' e', a.new c o e]
  dom := fun c o e => by
    obtain ⟨o', e'⟩ := a.dom c o e
    exact b.dom c o' e'
theorem Gr.wide (g : Gr F H F1 H1) : Grow M F H F1 H1 := ⟨g.fr, g.sub, fun a o _ e => g.hp a o (fun z => z) e, g.new, g.dom⟩
theorem Gr.same (g : Gr F H F1 H1) : Same H H1 := fun a o e => g.hp a o (fun z => z) e
theorem Gr.at (g : Gr F H F1 H1) (e : H p = some o) : H1 p = some o := g.hp p o (fun z => z) e
theorem Grow.at (g : Grow (fun _ => False) F H F1 H1) (e : H p = some o) : H1 p = some o := g.hp p o (fun z => z) e
theorem Grow.same (g : Grow (fun _ => False) F H F1 H1) : Same H H1 := fun a o e => g.hp a o (fun z => z) e
/-- not frozen stays not frozen -/
theorem Grow.live (g : Grow M F H F1 H1) (e : H p = some o) (n : F p = none) : F1 p = none := by rw [g.new p o e]; exact n
/-- a new object, frozen at once -/
theorem Grow.ice (s : Same F H) (n : H p = none) : Grow M F H (upd F p o) (upd H p o) where
  fr := fun b u e => by rw [upd_ne (fun z => by subst z; rw [s b u e] at n; cases n)]; exact e
  sub := fun b u e => by
    by_cases hb : b = p
    · subst hb; rw [upd_same] at e ⊢; exact e
    · rw [upd_ne hb] at e ⊢; exact s b u e
  hp := fun b u _ e => by rw [upd_ne (ne_of_none e n)]; exact e
  new := fun b u e => by rw [upd_ne (ne_of_none e n)]
  dom := fun b u e => ⟨u, by rw [upd_ne (ne_of_none e n)]; exact e⟩
/-- a new object, alive -/
theorem Grow.lay (s : Same F H) (n : H p = none) : Grow M F H F (upd H p o) where
  fr := Same.refl F
  sub := fun b u e => by rw [upd_ne (fun z => by subst z; rw [s b u e] at n; cases n)]; exact s b u e
  hp := fun b u _ e => by rw [upd_ne (ne_of_none e n)]; exact e
  new := fun b u e => rfl
  dom := fun b u e => ⟨u, by rw [upd_ne (ne_of_none e n)]; exact e⟩
/-- what was laid behind (F, H) is written -/
theorem Grow.put (g : Grow M F H F1 H1) (n : H p = none ∨ M p) (f : F1 p = none) : Grow M F H F1 (upd H1 p o) where
  fr := g.fr
  sub := fun b u e => by rw [upd_ne (fun z => by subst z; rw [f] at e; cases e)]; exact g.sub b u e
  hp := fun b u m e => by
    rw [upd_ne (fun z => by subst z; rcases n with n | n; · rw [n] at e; cases e
                            · exact m n)]
    exact g.hp b u m e
  new := g.new
  dom := fun b u e => by
    by_cases hb : b = p
    · exact ⟨o, by rw [hb]; exact upd_same⟩
    · obtain ⟨o', e'⟩ := g.dom b u e
      exact ⟨o', by rw [upd_ne hb]; exact e'⟩
/-- what was laid behind (F, H) is frozen -/
theorem Grow.freeze (g : Grow M F H F1 H1) (n : H p = none) (f : F1 p = none) (e1 : H1 p = some o) : Grow M F H (upd F1 p o) H1 where
  fr := fun b u e => by
    rw [upd_ne (fun z => by subst z; rw [g.fr b u e] at f; cases f)]; exact g.fr b u e
  sub := fun b u e => by
    by_cases hb : b = p
    · subst hb; rw [upd_same] at e; rw [e1]; exact e
    · rw [upd_ne hb] at e; exact g.sub b u e
  hp := g.hp
  new := fun b u e => by rw [upd_ne (ne_of_none e n)]; exact g.new b u e
  dom := g.dom
theorem same_put (s : Same F H) (f : F p = none) : Same F (upd H p o) := fun b u e => by
  rw [upd_ne (fun z => by subst z; rw [f] at e; cases e)]; exact s b u e
theorem same_ice (s : Same F H) (f : F p = none) : Same F (upd F p o) := fun b u e => by
  rw [upd_ne (fun z => by subst z; rw [f] at e; cases e)]; exact e
end

/-! ### data -/
class Rep (α : Type) where
  rep : Hp → V → α → Prop
  mono : ∀ {F F' : Hp} {v : V} {a : α}, Same F F' → rep F v a → rep F' v a
open Rep
instance : Rep Int := ⟨fun _ v d => v = .int d, fun _ h => h⟩
instance : Rep Bool := ⟨fun _ v d => v = .bl d, fun _ h => h⟩
instance : Rep Str := ⟨fun _ v d => v = .str d, fun _ h => h⟩
instance : Rep Unit := ⟨fun _ v _ => v = .non, fun _ h => h⟩
instance {α : Type} [Rep α] : Rep (Option α) := ⟨fun F v d => match d with | none => v = .non | some x => rep F v x, fun {F F' v d} s h => by
  cases d with
  | none => exact h
  | some x => exact mono s h⟩
instance {α : Type} [Rep α] : Rep (List α) := ⟨fun F v d => ∃ a vs, v = .ref a ∧ F a = some (.lst vs) ∧ Paired (rep F) vs d, fun {F F' v d} s h => by
  obtain ⟨a, vs, e, e2, h⟩ := h
  exact ⟨a, vs, e, s _ _ e2, L2.Paired.mapP h fun _ _ q => mono s q⟩⟩
instance {α β : Type} [Rep α] [Rep β] : Rep (α × β) := ⟨fun F v d => ∃ a v1 v2, v = .ref a ∧ F a = some (.tup [v1, v2]) ∧ rep F v1 d.1 ∧ rep F v2 d.2, fun {F F' v d} s h => by
  obtain ⟨a, v1, v2, e, e2, h1, h2⟩ := h
  exact ⟨a, v1, v2, e, s _ _ e2, mono s h1, mono s h2⟩⟩
class KeyT (κ : Type) where
  key : κ → Key
  inj : ∀ {a b : κ}, key a = key b → a = b
instance : KeyT Int := ⟨Sum.inl, fun h => Sum.inl.inj h⟩
instance : KeyT Str := ⟨Sum.inr, fun h => Sum.inr.inj h⟩
/-- a dict -/
structure Dct (κ α : Type) where
  kvs : List (κ × α)
instance {κ α : Type} [KeyT κ] [Rep α] : Rep (Dct κ α) := ⟨fun F v d => ∃ a kvs, v = .ref a ∧ F a = some (.dK kvs) ∧ Paired (fun (p : Key × V) (q : κ × α) => p.1 = KeyT.key q.1 ∧ rep F p.2 q.2) kvs d.kvs, fun {F F' v d} s h => by
  obtain ⟨a, kvs, e, e2, h⟩ := h
  exact ⟨a, kvs, e, s _ _ e2, L2.Paired.mapP h fun _ _ q => ⟨q.1, mono s q.2⟩⟩⟩
theorem rep_int {F : Hp} {i : Int} : rep F (.int i) i := rfl
theorem rep_str {F : Hp} {i : Str} : rep F (.str i) i := rfl
theorem rep_bl {F : Hp} {i : Bool} : rep F (.bl i) i := rfl
theorem paired_ints {F : Hp} : ∀ {vs : List V} {ns : List Int}, Paired (rep F) vs ns → vs = ns.map V.int
  | _, _, .nil => rfl
  | _, _, .cons (b := n) h t => by
    rw [List.map_cons, ← paired_ints t]
    exact congrArg (fun z => z :: _) h
theorem ints_paired {F : Hp} : ∀ (ns : List Int), Paired (rep F) (ns.map V.int) ns
  | [] => .nil
  | n :: ns => .cons rfl (ints_paired ns)
theorem paired_strs {F : Hp} : ∀ {vs : List V} {ns : List Str}, Paired (rep F) vs ns → vs = ns.map V.str
  | _, _, .nil => rfl
  | _, _, .cons h t => by
    rw [List.map_cons, ← paired_strs t]
    exact congrArg (fun z => z :: _) h
theorem strs_paired {F : Hp} : ∀ (ns : List Str), Paired (rep F) (ns.map V.str) ns
  | [] => .nil
  | n :: ns => .cons rfl (strs_paired ns)
theorem paired_bls {F : Hp} : ∀ {vs : List V} {ns : List Bool}, Paired (rep F) vs ns → vs = ns.map V.bl
  | _, _, .nil => rfl
  | _, _, .cons h t => by
    rw [List.map_cons, ← paired_bls t]
    exact congrArg (fun z => z :: _) h
theorem paired_app {α β : Type} {R : α → β → Prop} : ∀ {a : List α} {b : List β} {c : List α} {d : List β}, Paired R a b → Paired R c d → Paired R (a ++ c) (b ++ d)
  | _, _, _, _, .nil, h => h
  | _, _, _, _, .cons r t, h => .cons r (paired_app t h)
theorem paired_at {α β : Type} {R : α → β → Prop} : ∀ {a : List α} {b : List β} {i : Nat} {x : α}, Paired R a b → a[i]? = some x → ∃ y, b[i]? = some y ∧ R x y
  | _, _, _, _, .nil, e => by simp at e
  | _, _, 0, _, .cons r _, e => by simp at e; subst e; exact ⟨_, rfl, r⟩
  | _, _, i + 1, x, .cons _ t, e => by
    obtain ⟨y, h1, h2⟩ := paired_at (i := i) (x := x) t (by simpa using e)
    exact ⟨y, by simpa using h1, h2⟩
theorem paired_at' {α β : Type} {R : α → β → Prop} : ∀ {a : List α} {b : List β} {i : Nat} {y : β}, Paired R a b → b[i]? = some y → ∃ x, a[i]? = some x ∧ R x y
  | _, _, _, _, .nil, e => by simp at e
  | _, _, 0, _, .cons r _, e => by simp at e; subst e; exact ⟨_, rfl, r⟩
  | _, _, i + 1, x, .cons _ t, e => by
    obtain ⟨y, h1, h2⟩ := paired_at' (i := i) (y := x) t (by simpa using e)
    exact ⟨y, by simpa using h1, h2⟩
theorem paired_drop {α β : Type} {R : α → β → Prop} : ∀ {a : List α} {b : List β} (n : Nat), Paired R a b → Paired R (a.drop n) (b.drop n)
  | _, _, 0, r => r
  | _, _, _ + 1, .nil => .nil
  | _, _, n + 1, .cons _ t => paired_drop n t
theorem paired_take {α β : Type} {R : α → β → Prop} : ∀ {a : List α} {b : List β} (n : Nat), Paired R a b → Paired R (a.take n) (b.take n)
  | _, _, 0, _ => .nil
  | _, _, _ + 1, .nil => .nil
  | _, _, n + 1, .cons r t => .cons r (paired_take n t)

/-! ### what evaluates to what -/
def Ev {α : Type} [Rep α] (te : TE) (σ : L2.St) (F H : Hp) (d : α) : Prop := ∀ F1 H1, Gr F H F1 H1 → ∀ Q : VK, (∀ v F2 H2, Gr F1 H1 F2 H2 → rep F2 v d → Q v H2) → te σ H1 Q
def EvT (tt : TT) (σ : L2.St) (F H : Hp) (b : Bool) : Prop := ∀ F1 H1, Gr F H F1 H1 → ∀ Q : Bool → Hp → Prop, (∀ F2 H2, Gr F1 H1 F2 H2 → Q b H2) → tt σ H1 Q
section
variable {α β γ δ : Type} [Rep α] [Rep β] [Rep γ] [Rep δ] {K : PySem.W.Frag} {σ : L2.St} {F H F' H' : Hp} {ta tb tc te : TE} {t u : TT} {a : α} {b : β} {c : γ} {d : δ}
theorem Ev.mono (h : Ev te σ F H a) (g : Gr F H F' H') : Ev te σ F' H' a := fun F1 H1 g1 Q q => h F1 H1 (g.trans g1) Q q
theorem EvT.mono {k : Bool} (h : EvT t σ F H k) (g : Gr F H F' H') : EvT t σ F' H' k := fun F1 H1 g1 Q q => h F1 H1 (g.trans g1) Q q
theorem Ev.go (h : Ev te σ F H a) (s : Same F H) {Q : VK} (k : ∀ v F' H', Gr F H F' H' → rep F' v a → Q v H') : te σ H Q := h F H (Grow.refl s) Q k
theorem EvT.go {k : Bool} (h : EvT t σ F H k) (s : Same F H) {Q : Bool → Hp → Prop} (q : ∀ F' H', Gr F H F' H' → Q k H') : t σ H Q := h F H (Grow.refl s) Q q
theorem Ev.is {a' : α} (h : Ev te σ F H a) (e : a = a') : Ev te σ F H a' := e ▸ h
theorem EvT.is {k k' : Bool} (h : EvT t σ F H k) (e : k = k') : EvT t σ F H k' := e ▸ h
theorem ev_var {i : Nat} {v : V} (h : σ[i]? = some (some v)) (r : rep F v a) : Ev (tVar i) σ F H a := fun F1 H1 g Q q => ⟨v, h, q v F1 H1 (Grow.refl g.sub) (Rep.mono g.fr r)⟩
theorem ev_c {v : V} (r : ∀ F, rep F v a) : Ev (tC v) σ F H a := fun F1 H1 g Q q => q v F1 H1 (Grow.refl g.sub) (r F1)
theorem ev_i {i : Int} : Ev (tC (.int i)) σ F H i := ev_c fun _ => rfl
theorem ev_s {i : Str} : Ev (tC (.str i)) σ F H i := ev_c fun _ => rfl
theorem ev_b {i : Bool} : Ev (tC (.bl i)) σ F H i := ev_c fun _ => rfl
theorem ev_n : Ev (tC .non) σ F H (none : Option α) := ev_c fun _ => rfl
theorem ev_u : Ev (tC .non) σ F H () := ev_c fun _ => rfl
/-- a two-place rule on data -/
def R2D (r : R2) (a : α) (b : β) (c : γ) : Prop := ∀ F H x y (Q : VK), Same F H → rep F x a → rep F y b → (∀ v F' H', Gr F H F' H' → rep F' v c → Q v H') → r x y H Q
theorem ev_op {r : R2} (hr : R2D r a b c) (ha : Ev ta σ F H a) (hb : Ev tb σ F H b) : Ev (tOp r ta tb) σ F H c := fun F1 H1 g Q q =>
  ha F1 H1 g _ fun x F2 H2 g2 rx => hb F2 H2 (g.trans g2) _ fun y F3 H3 g3 ry => hr F3 H3 x y Q g3.sub (Rep.mono g3.fr rx) ry fun v F4 H4 g4 rv => q v F4 H4 ((g2.trans g3).trans g4) rv
def R1D (r : V → Hp → VK → Prop) (a : α) (b : β) : Prop := ∀ F H x (Q : VK), Same F H → rep F x a → (∀ v F' H', Gr F H F' H' → rep F' v b → Q v H') → r x H Q
theorem ev_un {r : V → Hp → VK → Prop} (hr : R1D r a b) (ha : Ev ta σ F H a) : Ev (tUn r ta) σ F H b := fun F1 H1 g Q q =>
  ha F1 H1 g _ fun x F2 H2 g2 rx => hr F2 H2 x Q g2.sub rx fun v F4 H4 g4 rv => q v F4 H4 (g2.trans g4) rv
/-- a call on values -/
def RLD (r : List V → Hp → VK → Prop) (R : Hp → List V → Prop) (c : γ) : Prop := ∀ F H xs (Q : VK), Same F H → R F xs → (∀ v F' H', Gr F H F' H' → rep F' v c → Q v H') → r xs H Q
theorem ev_cb1 {r : List V → Hp → VK → Prop} (hr : RLD r (fun F xs => ∃ x, xs = [x] ∧ rep F x a) c) (ha : Ev ta σ F H a) : Ev (tCB r (tCons ta tNil)) σ F H c := fun F1 H1 g Q q =>
  ha F1 H1 g _ fun x F2 H2 g2 rx => hr F2 H2 [x] Q g2.sub ⟨x, rfl, rx⟩ fun v F4 H4 g4 rv => q v F4 H4 (g2.trans g4) rv
theorem ev_cb2 {r : List V → Hp → VK → Prop} (hr : RLD r (fun F xs => ∃ x y, xs = [x, y] ∧ rep F x a ∧ rep F y b) c) (ha : Ev ta σ F H a) (hb : Ev tb σ F H b) : Ev (tCB r (tCons ta (tCons tb tNil))) σ F H c := fun F1 H1 g Q q =>
  ha F1 H1 g _ fun x F2 H2 g2 rx => hb F2 H2 (g.trans g2) _ fun y F3 H3 g3 ry => hr F3 H3 [x, y] Q g3.sub ⟨x, y, rfl, Rep.mono g3.fr rx, ry⟩ fun v F4 H4 g4 rv => q v F4 H4 ((g2.trans g3).trans g4) rv
/-! tests -/
theorem et_test {k : Bool} (h : Ev te σ F H k) : EvT (tTest te) σ F H k := fun F1 H1 g Q q => h F1 H1 g _ fun v F2 H2 g2 rv => ⟨k, rv, q F2 H2 g2⟩
theorem et_B {k : Bool} (h : Ev te σ F H k) : EvT (tB te) σ F H k := fun F1 H1 g Q q => h F1 H1 g _ fun v F2 H2 g2 rv => ⟨k, rv, q F2 H2 g2⟩
theorem et_and {k l : Bool} (h1 : EvT t σ F H k) (h2 : k = true → EvT u σ F H l) : EvT (tAnd t u) σ F H (k && l) := fun F1 H1 g Q q => h1 F1 H1 g _ fun F2 H2 g2 => by
  cases k with
  | true => exact h2 rfl F2 H2 (g.trans g2) Q fun F3 H3 g3 => q F3 H3 (g2.trans g3)
  | false => exact q F2 H2 g2
theorem et_or {k l : Bool} (h1 : EvT t σ F H k) (h2 : k = false → EvT u σ F H l) : EvT (tOr t u) σ F H (k || l) := fun F1 H1 g Q q => h1 F1 H1 g _ fun F2 H2 g2 => by
  cases k with
  | true => exact q F2 H2 g2
  | false => exact h2 rfl F2 H2 (g.trans g2) Q fun F3 H3 g3 => q F3 H3 (g2.trans g3)
theorem et_not {k : Bool} (h : EvT t σ F H k) : EvT (tNot t) σ F H (!k) := fun F1 H1 g Q q => h F1 H1 g _ fun F2 H2 g2 => q F2 H2 g2
theorem et_yes : EvT tYes σ F H true := fun F1 H1 g Q q => q F1 H1 (Grow.refl g.sub)
theorem ev_andV {k l : Bool} (h1 : Ev ta σ F H k) (h2 : k = true → Ev tb σ F H l) : Ev (tAndV ta tb) σ F H (k && l) := fun F1 H1 g Q q => h1 F1 H1 g _ fun v F2 H2 g2 rv => ⟨k, rv, by
  cases k with
  | true => exact h2 rfl F2 H2 (g.trans g2) Q fun v F3 H3 g3 r3 => q v F3 H3 (g2.trans g3) r3
  | false => exact q _ F2 H2 g2 rfl⟩
theorem ev_orV {k l : Bool} (h1 : Ev ta σ F H k) (h2 : k = false → Ev tb σ F H l) : Ev (tOrV ta tb) σ F H (k || l) := fun F1 H1 g Q q => h1 F1 H1 g _ fun v F2 H2 g2 rv => ⟨k, rv, by
  cases k with
  | true => exact q _ F2 H2 g2 rfl
  | false => exact h2 rfl F2 H2 (g.trans g2) Q fun v F3 H3 g3 r3 => q v F3 H3 (g2.trans g3) r3⟩
theorem ev_notV {k : Bool} (h : Ev ta σ F H k) : Ev (tNotV ta) σ F H (!k) := fun F1 H1 g Q q => h F1 H1 g _ fun v F2 H2 g2 rv => ⟨k, rv, q _ F2 H2 g2 rfl⟩
theorem ev_if {k : Bool} (h : EvT t σ F H k) (h1 : k = true → Ev ta σ F H a) (h2 : k = false → Ev tb σ F H a) : Ev (tIf t ta tb) σ F H a := fun F1 H1 g Q q => h F1 H1 g _ fun F2 H2 g2 => by
  cases k with
  | true => exact h1 rfl F2 H2 (g.trans g2) Q fun v F3 H3 g3 r3 => q v F3 H3 (g2.trans g3) r3
  | false => exact h2 rfl F2 H2 (g.trans g2) Q fun v F3 H3 g3 r3 => q v F3 H3 (g2.trans g3) r3
/-! chains: a op b op' c -/
theorem ev_chain {r r' : R2} {k l : Bool} (hr : R2D r a b k) (hr' : k = true → R2D r' b c l) (ha : Ev ta σ F H a) (hb : Ev tb σ F H b) (hc : k = true → Ev tc σ F H c) : Ev (tChain r r' ta tb tc) σ F H (k && l) := fun F1 H1 g Q q =>
  ha F1 H1 g _ fun x F2 H2 g2 rx => hb F2 H2 (g.trans g2) _ fun y F3 H3 g3 ry => hr F3 H3 x y _ g3.sub (Rep.mono g3.fr rx) ry fun v F4 H4 g4 rv => ⟨k, rv, by
    cases k with
    | true => exact hc rfl F4 H4 (((g.trans g2).trans g3).trans g4) _ fun z F5 H5 g5 rz => hr' rfl F5 H5 y z Q g5.sub (Rep.mono (g4.trans g5).fr ry) rz fun v F6 H6 g6 r6 => q v F6 H6 ((((g2.trans g3).trans g4).trans g5).trans g6) r6
    | false => exact q _ F4 H4 ((g2.trans g3).trans g4) rfl⟩
/-! operators -/
theorem rd_I0 {g : Int → Int → V} {i j : Int} (h : ∀ F, rep F (g i j) c) : R2D (rI0 g) i j c := fun F H x y Q s rx ry q => ⟨i, j, rx, ry, q _ F H (Grow.refl s) (h F)⟩
theorem rd_I {C : Int → Int → Prop} {g : Int → Int → V} {i j : Int} (hc : C i j) (h : ∀ F, rep F (g i j) c) : R2D (rI C g) i j c := fun F H x y Q s rx ry q => ⟨i, j, rx, ry, hc, q _ F H (Grow.refl s) (h F)⟩
end
end Ly
set_option maxHeartbeats 4000000
/-! Ru: rules that HandS lacks -/
namespace Ly
open PySem PySem.Spec PyProof.Rows L2 SX
section
variable {X : Cx}
/-! ### sorted, any length -/
def rSortS (K : PySem.W.Frag) : List V → Hp → VK → Prop := fun vs H Q => ∃ (l : Addr) (zs : List Str), vs = [V.ref l] ∧ SqL K H l (zs.map V.str) ∧ ∀ (ys : List Str) (p : Addr), ys.Perm zs → sortedS ys = true → H p = none → Q (.ref p) (upd H p (.lst (ys.map V.str)))
theorem o_sortedS : CallR X (.builtin "sorted") (rSortS X.K) := fun pins s σ H vs us Q I r ⟨l, zs, e, hl, q⟩ => by
  subst e
  obtain ⟨its, rv, pl, hz⟩ := I.list hl
  rw [Vals.ref1 r]
  have n1 : zs.length = its.length := by have z := rv.length; rwa [List.length_map] at z
  rw [List.length_map] at hz
  refine sorted_strsAny pl.isList rv.strs (n1 ▸ hz) fun out ys a1 a2 a3 => ?_
  obtain ⟨n, en⟩ := sortedAll_at s.heap its out
  have ok : ObjOk X.prog X.w (upd H (s.heap.objs.size + 1) (.lst (ys.map V.str))) (sortedAll s.heap its out) (s.heap.objs.size + 1) (.lst (ys.map V.str)) :=
    ⟨by rw [List.length_map, a2.length_eq]; exact hz, out.toList, n, vals_of_strs a1, en⟩
  exact ⟨.ref _, _, I.laid (t' := s.toks) (fun _ _ => sortedAll_old) (Nat.le_succ _) ok, rfl, q ys _ a2 a3 (I.hok.fresh (Nat.le_succ _))⟩
def rSortI' (K : PySem.W.Frag) : List V → Hp → VK → Prop := rSortedI K
theorem o_sortedI : CallR X (.builtin "sorted") (rSortI' X.K) := cr_sortedI
/-- the keys of a dict, as a list of values, drawn for a sort: texts -/
def rSortDS : List V → Hp → VK → Prop := fun vs H Q => ∃ (d : Addr) (kvs : List (Key × V)) (ks : List Str), vs = [.ref d] ∧ Rd H d (.dK kvs) ∧ kvs.map (·.1) = ks.map Sum.inr ∧ ∀ ys p, ys.Perm ks → sortedS ys = true → H p = none → Q (.ref p) (upd H p (.lst (ys.map V.str)))
def rSortDI : List V → Hp → VK → Prop := fun vs H Q => ∃ (d : Addr) (kvs : List (Key × V)) (ks : List Int), vs = [.ref d] ∧ Rd H d (.dK kvs) ∧ kvs.map (·.1) = ks.map Sum.inl ∧ ∀ (ys : List Int) p, ys.Perm ks → ys.Pairwise (· ≤ ·) → H p = none → Q (.ref p) (upd H p (.lst (ys.map V.int)))
/-- what both share: the keys' values lie in a new list ahead of the sort -/
theorem sort_dict {pins : List (Addr × Obj)} {σ : L2.St} {H : Hp} {s : Shared} {d : Addr} {kvs : List (Key × V)} {Q : VK} (calm : X.calm = true) (I : Inv X pins σ H s) (hd : Rd H d (.dK kvs))
    (h : ∀ (h1 : Heap) (tk : Nat) (acc : List Value) (P : Fin → Shared → Prop), Vals (kvs.map fun p => kV p.1) acc → acc.length ≤ sizeLine →
      (∀ (out : Array Value) (xs : List V), Vals xs out.toList → xs.length ≤ sizeLine → (∀ p, H p = none → Q (.ref p) (upd H p (.lst xs))) → P (.done (.ret .none)) { s with heap := sortedHeap (h1.push (seqObj "list" acc.toArray 0)) h1.objs.size acc out, toks := tk }) →
      wpAny (model X.prog X.w) X.A.in1.in1 (Builtin.«list.sort» ⟨[.ref h1.objs.size], []⟩) P X.xe { s with heap := h1.push (seqObj "list" acc.toArray 0), toks := tk }) :
    wpAny (model X.prog X.w) X.A (call (.builtin "sorted") [.ref d]) (EP X pins σ Q) X.xe s := by
  obtain ⟨z, lo, vs, rel, dd⟩ := dk_rd I.hok hd
  obtain ⟨ep, hat⟩ := dd.dictAt
  refine Calls.call_function_entry kind_sorted plain_sorted entry_sorted (args_sorted1 _) ?_
  unfold Builtin.«sorted»
  refine wpAny_bind (m := checkCount "sorted" 1 1 _) (wpAny_pure (wpAny_bind (PySem.W.kdu_collect (A := X.A.in1) (PySem.W.kdl_dict (knd := mixKind X.prog X.w) (kvs := vs) (ep := ep) lo) (I.ok.hd calm) hat (rel.length ▸ z) fun h1 tk acc hk ha => ?_)))
  have n1 : acc.toList.length = vs.length := by rw [Array.length_toList, ha.1]
  have hv : Vals (kvs.map fun p => kV p.1) acc.toList := by
    have e : (kvs.map fun p => kV p.1) = vs.map fun p => kV p.1 := by
      have k := congrArg (List.map kV) rel.keys
      rw [List.map_map, List.map_map] at k
      exact k
    rw [e]
    exact keys_at n1 fun j v e => ha.2 j v (by rw [← Array.getElem?_toList]; exact e)
  have nl : acc.toList.length ≤ sizeLine := by rw [n1, ← rel.length]; exact z
  have I1 : Inv X pins σ H { s with heap := h1, toks := tk } := I.kept hk
  have top : (h1.push (seqObj "list" acc.toList.toArray 0)).get? h1.objs.size = some (seqObj "list" acc.toList.toArray 0) := Heap.get?_push_size _ rfl
  refine wpAny_bind (wpAny_newList ?_ nl)
  refine wpAny_bind (wpAny_holding (wpAny_call_entry (s := { s with heap := h1.push (seqObj "list" acc.toList.toArray 0), toks := tk }) slot_list_sort ⟨_, top, rfl⟩ entry_list_sort (h h1 tk acc.toList _ hv nl fun out xs hx hl q => ⟨_, rfl, ?_⟩) (args_list_sort _)))
  obtain ⟨n, en⟩ := sortedHeap_at (vs := acc.toList) (out := out) top
  have ok : ObjOk X.prog X.w (upd H h1.objs.size (.lst xs)) (sortedHeap (h1.push (seqObj "list" acc.toList.toArray 0)) h1.objs.size acc.toList out) h1.objs.size (.lst xs) := ⟨hl, out.toList, n, hx, en⟩
  refine wpAny_pure ⟨_, rfl, .ref h1.objs.size, _, I1.laid (t' := tk) (fun b o e => ?_) (Nat.le_refl _) ok, rfl, q _ (I1.hok.fresh (Nat.le_refl _))⟩
  have lt : b < h1.objs.size := Heap.lt_size e
  rw [sortedHeap_old (Nat.ne_of_lt lt) (by rw [size_push']; exact Nat.lt_succ_of_lt lt)]
  exact Heap.get?_push_of_some _ e
theorem o_sortedDS (calm : X.calm = true) : CallR X (.builtin "sorted") rSortDS := fun pins s σ H vs us Q I r ⟨d, kvs, ks, e, hd, hk, q⟩ => by
  subst e
  rw [Vals.ref1 r]
  refine sort_dict calm I hd fun h1 tk acc P hv nl done => ?_
  have e : (kvs.map fun p => kV p.1) = ks.map V.str := by
    have k := congrArg (List.map kV) hk
    rw [List.map_map, List.map_map] at k
    exact k
  rw [e] at hv
  refine list_sort_treeKAny strKind_oneLt (Heap.get?_push_size _ rfl) hv.strs.keysOf (fun v1 v2 rest e => keyKind_strs (by rw [← e]; exact hv.strs)) nl fun st a1 a2 => ?_
  obtain ⟨ys, g1, g2, g3⟩ := sorted_out_str hv.strs a1 a2
  refine done _ (ys.map V.str) (vals_of_strs g1) ?_ fun p n => q ys p g2 g3 n
  have z := hv.length
  rw [List.length_map] at z
  rw [List.length_map, g2.length_eq, z]
  exact nl
theorem o_sortedDI (calm : X.calm = true) : CallR X (.builtin "sorted") rSortDI := fun pins s σ H vs us Q I r ⟨d, kvs, ks, e, hd, hk, q⟩ => by
  subst e
  rw [Vals.ref1 r]
  refine sort_dict calm I hd fun h1 tk acc P hv nl done => ?_
  have e : (kvs.map fun p => kV p.1) = ks.map V.int := by
    have k := congrArg (List.map kV) hk
    rw [List.map_map, List.map_map] at k
    exact k
  rw [e] at hv
  refine list_sort_treeAny (Heap.get?_push_size _ rfl) hv.ints nl fun out ys g1 g2 g3 => ?_
  refine done _ (ys.map V.int) (vals_of_ints g1) ?_ fun p n => q ys p g2 g3 n
  have z := hv.length
  rw [List.length_map] at z
  rw [List.length_map, g2.length_eq, z]
  exact nl
/-! ### powers -/
def rPowI : R2 := rI (fun i j => 0 ≤ j ∧ (Builtin.Int.intBits i : Int) * j ≤ 2 ^ 27) fun i j => .int (i ^ j.toNat)
theorem o_pow : OpR X (binaryOp .Pow) rPowI := opI fun _ _ _ _ _ _ _ hc q => pow_int hc.1 hc.2 q
/-! ### min of two texts -/
def rMinS : List V → Hp → VK → Prop := fun xs H Q => ∃ x y : Str, xs = [.str x, .str y] ∧ Q (.str (if y.cps.toList < x.cps.toList then y else x)) H
theorem o_min2S (calm : X.calm = true) : CallR X (.builtin "min") rMinS := fun pins s σ H vs us Q I r ⟨x, y, e, q⟩ => by
  subst e
  obtain ⟨u1, u2, rfl, ⟨t1, rfl⟩, ⟨t2, rfl⟩⟩ := vals2 r
  have hT : (s.heap.push { cls := .type "tuple", data := .seq #[.str x t1, .str y t2] }).IsTuple s.heap.objs.size #[.str x t1, .str y t2] := ⟨_, Heap.get?_push_size _ rfl, rfl, 0, rfl⟩
  have hsz : (s.heap.push { cls := .type "tuple", data := .seq #[.str x t1, .str y t2] }).objs.size = s.heap.objs.size + 1 := Heap.size_push ..
  refine call_min_two (wpAny_pyIter_tuple hT ⟨_, [_, s.heap.objs.size], [_], _, _, _, fun i j => decide ((if i = 0 then x else y).cps.toList < (if j = 0 then x else y).cps.toList), rfl,
    Walks.tuple (A := X.A.in1) (I.ok.hd calm) _ s.heap.objs.size (by rw [hsz]; exact Nat.ne_of_lt (Nat.lt_succ_self _)) #[.str x t1, .str y t2], ⟨⟨_, Heap.get?_push_size _ rfl, rfl, rfl⟩, hT.push _⟩, fun c hc => ?_, Nat.zero_lt_succ _, ?_, fun v h' tk hP hk => ?_⟩)
  · show c < ((s.heap.push _).push _).objs.size
    rw [Heap.size_push, hsz]
    simp only [List.mem_cons, List.not_mem_nil, or_false] at hc
    rcases hc with rfl | rfl
    · rw [hsz]
      exact Nat.lt_succ_self _
    · exact Nat.lt_succ_of_lt (Nat.lt_succ_self _)
  · intro i j vi vj s' Q' E hi hj h
    have look : ∀ {i : Nat} {v : Value}, (#[.str x t1, .str y t2] : Array Value)[i]? = some v → ∃ t, v = .str (if i = 0 then x else y) t := fun {i v} e => by
      match i, e with
      | 0, e => exact ⟨t1, (Option.some.inj e).symm⟩
      | 1, e => exact ⟨t2, (Option.some.inj e).symm⟩
      | i + 2, e => simp at e
    obtain ⟨t, rfl⟩ := look hi
    obtain ⟨u, rfl⟩ := look hj
    exact richCompare_gives (op := .Lt) (typeIs_str s' _ t) (typeIs_str s' _ u) F.slot_str_lt F.entry_str_lt (F.args_str_lt_2 _ _) (gives_str_lt _ _ t u) (fun z => nomatch z) h
  · have old : ∀ c o, s.heap.get? c = some o → h'.get? c = some o := fun c o e => hk c o (fun m => by
      have l := Heap.lt_size e
      have e1 : c = (s.heap.push { cls := .type "tuple", data := .seq #[.str x t1, .str y t2] }).objs.size := by simpa using m
      rw [hsz] at e1
      exact absurd l (by rw [e1]; exact Nat.not_lt_of_lt (Nat.lt_succ_self _))) (Heap.get?_push_of_some _ (Heap.get?_push_of_some _ e))
    refine ⟨_, H, I.kept (t' := tk) old, ?_, q⟩
    by_cases c : y.cps.toList < x.cps.toList
    · rw [if_pos c]
      have e2 : (#[.str x t1, .str y t2] : Array Value)[1]? = some v := by
        have e3 : argBest (fun i j => decide ((if i = 0 then x else y).cps.toList < (if j = 0 then x else y).cps.toList)) ((#[.str x t1, .str y t2] : Array Value).size - 1) = 1 := by
          show (if decide (y.cps.toList < x.cps.toList) = true then 1 else 0) = 1
          rw [decide_eq_true c]
          rfl
        rw [← e3]
        exact hP
      exact ⟨t2, (Option.some.inj e2).symm⟩
    · rw [if_neg c]
      have e2 : (#[.str x t1, .str y t2] : Array Value)[0]? = some v := by
        have e3 : argBest (fun i j => decide ((if i = 0 then x else y).cps.toList < (if j = 0 then x else y).cps.toList)) ((#[.str x t1, .str y t2] : Array Value).size - 1) = 0 := by
          show (if decide (y.cps.toList < x.cps.toList) = true then 1 else 0) = 0
          rw [decide_eq_false c]
          rfl
        rw [← e3]
        exact hP
      exact ⟨t1, (Option.some.inj e2).symm⟩
end
end Ly
set_option maxHeartbeats 4000000
/-! Ru2: enumerate of a text, list(range(a, b, c)), dict.update, a dict comprehension that is stored -/
namespace Ly
open PySem PySem.Spec PyProof.Rows L2 SX
/-! ### enumerate(text) -/
def Ites (x : Str) : It := ⟨fun i _ => i < x.cps.size, fun i H v H' => ∃ T c, v = .ref T ∧ H T = none ∧ x.cps[i]? = some c ∧ H' = upd H T (.tup [.int (i : Nat), .str ⟨#[c]⟩]), fun i _ => i = x.cps.size⟩
theorem draws_str {P : Program} {w : World} {A : Around} (hh : A.handled = none) (it : Addr) (x : Str) (t : Tok) : Draws P w A it [it] x.cps.size (fun i v => ∃ c u, x.cps[i]? = some c ∧ v = .str ⟨#[c]⟩ u) (fun i h => h.IsStrIter it (strIterType x) x t i) := by
  unfold strIterType
  split
  · exact Draws.strAscii hh it x t
  · exact Draws.strWide hh it x t
theorem turn_enumS {P : Program} {w : World} {K : PySem.W.Frag} {elts : List Expr} {kk : Nat} {tpos : Pos} (x : Str) (t : Tok) (e it : Addr) :
    Turn P w K (.Tuple elts kk tpos) (Ites x) [e, it] e (fun i h => (∃ old, IsEnum h e it ((i : Nat) : Int) old) ∧ h.IsStrIter it (strIterType x) x t i ∧ e ≠ it) where
  mem := List.mem_cons_self ..
  obj := fun i h ⟨⟨old, a⟩, ⟨o, b, c, d⟩, _⟩ z hz => by
    rcases List.mem_cons.mp hz with q | q
    · subst q
      exact ⟨_, a, fun v q => nomatch q⟩
    · rw [List.mem_singleton.mp q]
      exact ⟨o, b, fun v q => by rw [d] at q; cases q⟩
  keep := fun i h h' ⟨⟨old, a⟩, ⟨o, b, c⟩, ne⟩ k => ⟨⟨old, k e (List.mem_cons_self ..) _ a⟩, ⟨o, k it (List.mem_cons_of_mem _ (List.mem_singleton.mpr rfl)) o b, c⟩, ne⟩
  item := fun X hP hw hK hc i pins s σ H E I hf ⟨⟨old, a⟩, b, ne⟩ hg => by
    subst hP hw hK
    have l1 : e < s.heap.objs.size := Heap.lt_size a
    have l2 : it < s.heap.objs.size := by obtain ⟨_, q, _⟩ := b; exact Heap.lt_size q
    have D := draws_str (P := X.prog) (w := X.w) (A := X.A.in1) (I.ok.hd hc) it x t
    refine wpAny_pyNext_enum_itemD D a b hg ne (by simpa using ne) fun v h' tk ⟨c, u, hx, ev⟩ ho hs hT hz hk => ⟨_, rfl, wpAny_letOwnedTupleGo_enum (s := { s with heap := h', toks := tk + 1 }) ho fun h2 he2 sb => ?_⟩
    subst ev
    have hT2 := (sb.2 _ (Nat.ne_of_gt l1)).trans hT
    have new : ObjOk X.prog X.w (upd H s.heap.objs.size (.tup [.int (i : Nat), .str ⟨#[c]⟩])) h2 s.heap.objs.size (.tup [.int (i : Nat), .str ⟨#[c]⟩]) :=
      ⟨by show 2 ≤ sizeLine; decide, [.int i tk, .str ⟨#[c]⟩ u], .cons ⟨_, rfl⟩ (.cons ⟨_, rfl⟩ .nil), ⟨_, hT2, rfl, _, rfl⟩⟩
    have I1 := I.turnedNew (t' := tk + 1) (ch := [e, it]) (fun z ob hz' q => (sb.2 z fun y => hz' (y ▸ List.mem_cons_self ..)).trans (hk z ob (fun y => hz' (y ▸ List.mem_cons_self ..)) (fun y => hz' (y ▸ List.mem_cons_of_mem _ (List.mem_singleton.mpr rfl))) q)) hf (Nat.le_refl _) new
    refine ⟨.ref s.heap.objs.size, _, I1, rfl, ⟨_, c, rfl, I.hok.fresh (Nat.le_refl _), hx, rfl⟩, ⟨⟨.str ⟨#[c]⟩ u, ?_⟩, ?_, ne⟩, fun z hz' => ?_⟩
    · rw [show (((i + 1 : Nat) : Int)) = (i : Int) + 1 by omega]
      exact he2
    · obtain ⟨o, q, r⟩ := hs
      exact ⟨o, (sb.2 it (Ne.symm ne)).trans q, r⟩
    · have lz : z < s.heap.objs.size := by
        rcases List.mem_cons.mp hz' with q | q
        · rw [q]; exact l1
        · rw [List.mem_singleton.mp q]; exact l2
      rw [upd_ne (Nat.ne_of_lt lz)]
      exact (hf z hz').1
  done := fun X hP hw hK hc i pins s σ H E I hf ⟨⟨old, a⟩, b, ne⟩ hg => by
    subst hP hw hK
    have ei : i = x.cps.size := hg
    subst ei
    obtain ⟨f0, f1, f2, f3, f4, f5⟩ := hf it (List.mem_cons_of_mem _ (List.mem_singleton.mpr rfl))
    exact wpAny_pyNext_enum_endD (draws_str (P := X.prog) (w := X.w) (A := X.A.in1) (I.ok.hd hc) it x t) a b fun h' eb => ⟨rfl, I.turned (t' := s.toks) (fun z o hz q => eb z o hz q) f0 f1 f3 f4 f5⟩
  self := fun A i s Q E ⟨⟨old, a⟩, _⟩ h => wpAny_pyIter_enum a h
def iEnumS (te : TE) : TI := fun σ H R => te σ H fun v H1 => ∃ x, v = .str x ∧ R (Ites x) H1
theorem pi_enumS {X : Cx} {e : Expr} {te : TE} {p pos tpos : Pos} {elts : List Expr} {kk : Nat} (hg : Gl X "enumerate") (hm : X.mg "enumerate" = none) (he : PE X e te) (hs : starEach [e] X.env = (false, eval e X.env) :: starEach [] X.env := by rfl) :
    PI X (.Tuple elts kk tpos) (.Call (.Name "enumerate" p) [e] [] pos) (iEnumS te) := ⟨fun pins s σ H R I h => by
  refine Call_ (ld_blt I hg hm boot_enumerate (PyProof.Rows.callWith_type1 (args_cons (thn (he.run pins s σ H _ I h) fun v s1 ⟨y, H1, I1, r1, x, ey, q⟩ => args_nil ?_) hs) hs rfl))
  subst ey
  obtain ⟨t, rfl⟩ := r1
  refine call_enumerate_str fun h' a b hz hk => wpAny_pyIter_enum a ⟨s1.heap.objs.size + 1, [s1.heap.objs.size + 1, s1.heap.objs.size], _, _, H1, rfl, I1.kept (t' := s1.toks) hk, turn_enumS x t (s1.heap.objs.size + 1) s1.heap.objs.size, ⟨⟨.none, a⟩, b, Nat.succ_ne_self _⟩, fun z hz' => ?_, q⟩
  have le : s1.heap.objs.size ≤ z := by
    rcases List.mem_cons.mp hz' with q | q
    · rw [q]; exact Nat.le_succ _
    · rw [List.mem_singleton.mp q]; exact Nat.le_refl _
  exact I1.fpOk le (I1.hok.fresh le)⟩
/-! ### list(range(a, b, c)) -/
def rg3 (a c : Int) (n : Nat) : List Int := (List.range n).map fun i => a + (i : Nat) * c
def tListRg3 (t : TA) : TE := fun σ H Q => t σ H fun vs H1 => ∃ (i j c : Int) (n : Nat), vs = [.int i, .int j, .int c] ∧ RgC i j c n ∧ n ≤ 2 ^ 24 ∧ ∀ q, H1 q = none → Q (.ref q) (upd H1 q (.lst ((rg3 i c n).map V.int)))
theorem vals_rg3 (a c : Int) : ∀ (n : Nat) (us : List Value), us.length = n → (∀ (i : Nat) (v : Value), us[i]? = some v → ∃ t, v = .int (a + i * c) t) → Vals ((rg3 a c n).map V.int) us := fun n us hl h => by
  subst hl
  have e : (rg3 a c us.length).map V.int = (List.range us.length).map fun i => V.int (a + (i : Nat) * c) := by
    unfold rg3
    rw [List.map_map]
    rfl
  rw [e]
  exact vals_of_get us _ fun j u q => h j u q
theorem pe_listRg3 {X : Cx} {a b c : Expr} {ta : TA} {p p2 pos pos2 : Pos} (calm : X.calm = true) (hg : Gl X "list") (hm : X.mg "list" = none) (hg2 : Gl X "range") (hm2 : X.mg "range" = none) (ha : PA X [a, b, c] ta)
    (hs : starEach [a, b, c] X.env = (false, eval a X.env) :: starEach [b, c] X.env := by rfl) (hpl : (backTo pos2 (starEach [b, c] X.env)).any (·.1) = false := by rfl)
    (na : starEach [.Call (.Name "range" p2) [a, b, c] [] pos2] X.env = (false, eval (.Call (.Name "range" p2) [a, b, c] [] pos2) X.env) :: starEach [] X.env := by rfl) :
    PE X (.Call (.Name "list" p) [.Call (.Name "range" p2) [a, b, c] [] pos2] [] pos) (tListRg3 ta) := ⟨fun pins s σ H Q I h => by
  refine Call_ (ld_blt I hg hm boot_list (PyProof.Rows.callWith_type1 (args_cons (Call_ (ld_blt I hg2 hm2 boot_range (PyProof.Rows.callWith_type1 (thn (ha.run pos2 pins s σ H _ I h) fun us s1 ⟨vs, H1, I1, r1, q1⟩ => ?_) hs hpl))) na) na))
  obtain ⟨i, j, k, n, e, ⟨c0, c1, c2, c3⟩, hn, q⟩ := q1
  subst e
  obtain ⟨u1, u2, u3, rfl, ⟨t1, rfl⟩, ⟨t2, rfl⟩, ⟨t3, rfl⟩⟩ : ∃ u1 u2 u3, us = [u1, u2, u3] ∧ RelV (.int i) u1 ∧ RelV (.int j) u2 ∧ RelV (.int k) u3 := by
    cases r1 with
    | cons x1 r1 => cases r1 with
      | cons x2 r1 => cases r1 with
        | cons x3 r1 => cases r1; exact ⟨_, _, _, rfl, x1, x2, x3⟩
  refine call_range_3 c0 (args_nil ?_) (.inl (PyProof.noPylong_small c1))
  have I2 : Inv X pins σ H1 { s1 with heap := s1.heap.push { cls := .type "range", data := .fields #[.int i t1, .int j t2, .int k t3] } } := I1.kept (t' := s1.toks) fun b o e => Heap.get?_push_of_some _ e
  refine call_list_range (n := n) (I2.ok.hd calm) (IsRange.new ..) c2 c3 hn fun h' tk acc c' hk e' hi => ?_
  refine ⟨.ref _, upd H1 _ (.lst ((rg3 i k n).map V.int)), I2.laid (t' := tk) hk (Nat.le_refl _) (show ObjOk X.prog X.w _ _ _ (.lst _) from ⟨?_, acc.toList, c', ?_, by rw [Array.toArray_toList]; exact e'⟩), rfl, q _ (I2.hok.fresh (Nat.le_refl _))⟩
  · rw [List.length_map]
    unfold rg3
    rw [List.length_map, List.length_range, sizeLine_eq]
    omega
  · exact vals_rg3 i k n _ (by rw [Array.length_toList]; exact hi.1) fun j v e => hi.2 j v (by rw [← Array.getElem?_toList]; exact e)⟩
/-! ### d.update(e) -/
def rUpdD : V → List V → Hp → VK → Prop := fun x vs H Q => ∃ (a b : Addr) (kvs more : List (Key × V)), x = .ref a ∧ vs = [.ref b] ∧ a ≠ b ∧ H a = some (.dK kvs) ∧ H b = some (.dK more) ∧ kvs.length + more.length ≤ sizeLine ∧ Q .non (upd H a (.dK (mergeK kvs more)))
theorem o_update {X : Cx} : MtR X "dict.update" rUpdD := fun pins s σ H x xs v us Q I rx rxs ⟨a, b, kvs, more, e1, e2, ne, ha, hb, hz, q⟩ => by
  subst e1 e2
  cases rx
  rw [Vals.ref1 rxs]
  obtain ⟨z1, lo1, vs, rel, dd⟩ := dk_of I.hok ha
  obtain ⟨z2, lo2, ms, rel2, dd2⟩ := dk_of I.hok hb
  refine call_meetsIn F.slot_dict_update dd.typeIs F.entry_dict_update (F.args_dict_update_2 _ _) (meets_dict_update (mixKind X.prog X.w) a b ne lo2) ⟨vs, ms, dd, dd2, by rw [← rel.length, ← rel2.length]; exact hz, fun h' d1 d2 sb => ?_⟩
  refine ⟨.non, _, d_write (t' := s.toks) I (by rw [ha]; trivial) sb (let ⟨o, _, _, e, _⟩ := d1; ⟨o, e⟩) (dk_new (Nat.le_trans (length_mergeK more kvs) hz) lo1 (KV.merge rel2 rel) d1), rfl, q⟩
/-! ### name = {.. for ..} -/
theorem ps_setDc {X : Cx} {i : Nat} {y : Str} {py : Pos} {kx vx tg iter : Expr} {ifs : List Expr} {scope : Scope} {own : List (Str × Nat)} {pos spos : Pos} {wi : TI} {g : TG} {tt : TT} {tk tv : TE} (calm : X.calm = true) (hN : X.N.Nodup) (hy : X.N[i]? = some y) (hyl : X.env.scope.names.lookup y = some .local)
    (hsw : swapsWith (.DictComp kx vx [⟨tg, iter, ifs, 0⟩] scope pos) (some (.Name y py)) spos.line X.env = pure true) (hi : PI X tg iter wi) (ok : BlkOk X.N X.env.scope scope own)
    (hg : ∀ (s : Shared) (H : Hp) (C : Addr) (cl : List (Str × Addr)) (fp : List Addr), PG (X.blk s H scope (compEnvC scope cl C X.env) fp) tg g) (ht : ∀ (s : Shared) (H : Hp) (C : Addr) (cl : List (Str × Addr)) (fp : List Addr), PTs (X.blk s H scope (compEnvC scope cl C X.env) fp) ifs tt)
    (hk : ∀ (s : Shared) (H : Hp) (C : Addr) (cl : List (Str × Addr)) (fp : List Addr), PE (X.blk s H scope (compEnvC scope cl C X.env) fp) kx tk)
    (he : ∀ (s : Shared) (H : Hp) (C : Addr) (cl : List (Str × Addr)) (fp : List Addr), PE (X.blk s H scope (compEnvC scope cl C X.env) fp) vx tv) (hs : ∀ x, foldedSetIterable iter X.env x = pure x := by intro _; rfl) :
    PS X (.Assign [.Name y py] (.DictComp kx vx [⟨tg, iter, ifs, 0⟩] scope pos) spos) (tAsg (tDc wi g tt tk tv (own.map (·.2))) (gName i)) := ⟨fun pins s σ H D I h => by
  rw [exec_Assign_Name_used _ _ _ _ hsw]
  refine wpAny_bind (wpAny_standAt (wpAny_bind ?_))
  show wpAny _ X.A (do let _ ← comprehension (.DictComp kx vx [⟨tg, iter, ifs, 0⟩] scope pos) scope X.env (firstIterPos [⟨tg, iter, ifs, 0⟩] pos) newDict false (eval iter X.env) (some (assign (.Name y py) X.env))) _ _ s
  refine wpAny_bind (thn (dc_core (Qf := fun _ s' => SP X pins D .next s') (Q := fun x H1 => gName i x σ H1 D.nx) calm hN I hi ok hg ht hk he hs h fun L C s' m H' I' q hn f => ?_) fun _ s' hq => wpAny_pure (wpAny_pure hq))
  show wpAny _ _ (assign (.Name y py) X.env (.ref L)) _ _ _
  refine wpAny_assign_Name (store_ok2 (v := V.ref L) I' hN hy (.inl hyl) rfl (fun s2 I2 ⟨a, sb, ha⟩ => ?_) (.inr hyl))
  obtain ⟨f0, f1, f2, f3, f4, f5⟩ := f
  refine ⟨m, hn.sameBut sb (fun z => ?_), fun h3 sb3 => ⟨_, H', I2.turned (t' := s2.toks) (fun b o hb e => (sb3.2 b hb).trans e) f0 f1 f3 f4 f5, q⟩⟩
  rcases ha with k | k
  · exact f1 (z.trans k)
  · exact f4 y a k z.symm⟩
theorem sw_trueD {kx vx : Expr} {gs : List Comprehension} {scope : Scope} {pos py : Pos} {y : Str} {l : Nat} {env : Env} (hk : env.scope.kind = .function) (hy : env.scope.names.lookup y = some .local) (hl : (py.line == pos.line) = true)
    (ha : (scope.names.any fun (n, k) => n == y && (k == .local || k == .cell)) = false) : swapsWith (.DictComp kx vx gs scope pos) (some (.Name y py)) l env = pure true := by
  have k1 : env.kindOf y = some .local := hy
  have k2 : env.blockKind = .function := by
    unfold Env.blockKind
    rw [hk] <;> rfl
  unfold swapsWith
  simp only [k2, k1, ha, Expr.pos, hl] <;> rfl
end Ly
set_option maxHeartbeats 4000000
/-! Lx: operators by names, what they give of data, walks of data, loops, comprehensions, calls -/
namespace Ly
open PySem PySem.Spec PyProof.Rows L2 SX
open Rep
/-! ### operators -/
section
variable {X : Cx}
def rAddI : R2 := rI0 fun i j => .int (i + j)
def rSubI : R2 := rI0 fun i j => .int (i - j)
def rMulI : R2 := rI IntMulOk fun i j => .int (i * j)
def rDivI : R2 := rI CDivW fun i j => .int (i / j)
def rModI : R2 := rI (fun _ j => 0 < j) fun i j => .int (i % j)
def rShlI : R2 := rI CPow fun i j => .int (i * 2 ^ j.toNat)
def rOrI : R2 := rI0 fun i j => .int (Builtin.bitOr i j)
def rAddS2 : R2 := fun x y H Q => ∃ i j, x = .str i ∧ y = .str j ∧ i.length + j.length ≤ sizeLine ∧ Q (.str (i ++ j)) H
def rIs : R2 := fun x y H Q => y = .non ∧ Q (.bl (decide (x = .non))) H
def rIsnt : R2 := fun x y H Q => y = .non ∧ Q (.bl (!decide (x = .non))) H
theorem o_add : OpR X (binaryOp .Add) rAddI := op_add
theorem o_sub : OpR X (binaryOp .Sub) rSubI := op_sub
theorem o_mul : OpR X (binaryOp .Mult) rMulI := opI fun _ _ _ _ _ _ _ hc q => mul_int q hc
theorem o_div : OpR X (binaryOp .FloorDiv) rDivI := op_fdivW
theorem o_mod : OpR X (binaryOp .Mod) rModI := op_mod
theorem o_shl : OpR X (binaryOp .LShift) rShlI := op_shl
theorem o_or : OpR X (binaryOp .BitOr) rOrI := op_or
theorem o_adds : OpR X (binaryOp .Add) rAddS2 := op_add_str
theorem o_is : OpR X (compareOp .Is) rIs := op_isN
theorem o_isnot : OpR X (compareOp .IsNot) rIsnt := op_notN
def rLt : R2 := rI0 fun i j => .bl (decide (i < j))
def rLe : R2 := rI0 fun i j => .bl (decide (i ≤ j))
def rGt' : R2 := rI0 fun i j => .bl (decide (j < i))
def rGe' : R2 := rI0 fun i j => .bl (decide (j ≤ i))
theorem o_lt : OpR X (compareOp .Lt) rLt := op_lt
theorem o_le : OpR X (compareOp .LtE) rLe := op_le
theorem o_gt : OpR X (compareOp .Gt) rGt' := op_gt
theorem o_ge : OpR X (compareOp .GtE) rGe' := op_ge
def rLtS : R2 := fun x y H Q => ∃ i j, x = .str i ∧ y = .str j ∧ Q (.bl (decide (i.cps.toList < j.cps.toList))) H
def rLeS : R2 := fun x y H Q => ∃ i j, x = .str i ∧ y = .str j ∧ Q (.bl (!decide (j.cps.toList < i.cps.toList))) H
theorem o_lts : OpR X (compareOp .Lt) rLtS := op_lt_str
theorem o_les : OpR X (compareOp .LtE) rLeS := op_le_str
/-- one sign in a text -/
def rInSg (neg : Bool) : R2 := fun x y H Q => ∃ (c : Nat) (z : Str), x = .str ⟨#[c]⟩ ∧ y = .str z ∧ Q (.bl (neg ^^ decide (c ∈ z.cps.toList))) H
theorem o_ins : OpR X (compareOp .In) (rInSg false) := fun pins s σ H x y v u Q I rx ry ⟨c, z, e1, e2, q⟩ => op_in_sign pins s σ H x y v u Q I rx ry ⟨c, z, e1, e2, by simpa using q⟩
theorem o_nins : OpR X (compareOp .NotIn) (rInSg true) := fun pins s σ H x y v u Q I rx ry ⟨c, z, e1, e2, q⟩ => op_notIn_sign pins s σ H x y v u Q I rx ry ⟨c, z, e1, e2, by simpa using q⟩
def rLenS' : List V → Hp → VK → Prop := fun xs H Q => ∃ z, xs = [.str z] ∧ z.length ≤ sizeLine ∧ Q (.int z.length) H
def rLenL (K : PySem.W.Frag) : List V → Hp → VK → Prop := fun xs H Q => ∃ p ys, xs = [.ref p] ∧ (SqL K H p ys ∨ SqT K H p ys) ∧ Q (.int ys.length) H
theorem o_lens : CallR X (.builtin "len") rLenS' := call_len_str
theorem o_lenl : CallR X (.builtin "len") (rLenL X.K) := call_len_seq
def rStrI : List V → Hp → VK → Prop := fun xs H Q => ∃ i, xs = [.int i] ∧ i.natAbs.log2 < 1920 ∧ Q (.str (toString i)) H
theorem o_str : CallR X (.type "str") rStrI := call_str_int
def rIntI : List V → Hp → VK → Prop := fun xs H Q => (∃ i, xs = [.int i] ∧ Q (.int i) H) ∨ ∃ k, xs = [.bl k] ∧ Q (.int (if k then 1 else 0)) H
theorem o_int : CallR X (.type "int") rIntI := call_int1
def rIntS : List V → Hp → VK → Prop := fun xs H Q => ∃ a n, xs = [.str a] ∧ PySem.intText? a = some n ∧ a.length ≤ 640 ∧ Q (.int n) H
theorem o_ints : CallR X (.type "int") rIntS := call_int_str
def rMax2 : List V → Hp → VK → Prop := fun xs H Q => ∃ i j, xs = [.int i, .int j] ∧ Q (.int (if j > i then j else i)) H
def rMin2 : List V → Hp → VK → Prop := fun xs H Q => ∃ i j, xs = [.int i, .int j] ∧ Q (.int (if j < i then j else i)) H
theorem o_max2 (calm : X.calm = true) : CallR X (.builtin "max") rMax2 := call_max2 calm
theorem o_min2 (calm : X.calm = true) : CallR X (.builtin "min") rMin2 := call_min2 calm
def rDictD : List V → Hp → VK → Prop := fun xs H Q => ∃ (a : Addr) (kvs : List (Key × V)), xs = [.ref a] ∧ Rd H a (.dK kvs) ∧ ∀ p, H p = none → Q (.ref p) (upd H p (.dK kvs))
def rDictP (K : PySem.W.Frag) : List V → Hp → VK → Prop := fun xs H Q => ∃ (a : Addr) (ps : List Addr) (kvs : List (Key × V)), xs = [.ref a] ∧ SqL K H a (ps.map V.ref) ∧ Paired (fun p kv => SqT K H p [kV kv.1, kv.2]) ps kvs ∧ ∀ p, H p = none → Q (.ref p) (upd H p (.dK (mergeK [] kvs)))
theorem o_dictp (calm : X.calm = true) : CallR X (.type "dict") (rDictP X.K) := call_dictP calm
def rStarts : V → List V → Hp → VK → Prop := fun x xs H Q => ∃ a b, x = .str a ∧ xs = [.str b] ∧ Q (.bl (Txt.startswith a b)) H
theorem o_starts : MtR X "str.startswith" rStarts := mt_startswith
end
section
variable {α β γ δ : Type} [Rep α] [Rep β] [Rep γ] [Rep δ] {K : PySem.W.Frag} {σ : L2.St} {F H F' H' : Hp} {ta tb tc te : TE} {t u : TT} {a : α} {b : β} {c : γ} {d : δ} {i j : Int} {x y : Str}
theorem ev_add (ha : Ev ta σ F H i) (hb : Ev tb σ F H j) : Ev (tOp rAddI ta tb) σ F H (i + j) := ev_op (rd_I0 fun _ => rfl) ha hb
theorem ev_sub (ha : Ev ta σ F H i) (hb : Ev tb σ F H j) : Ev (tOp rSubI ta tb) σ F H (i - j) := ev_op (rd_I0 fun _ => rfl) ha hb
theorem ev_mul (hc : IntMulOk i j) (ha : Ev ta σ F H i) (hb : Ev tb σ F H j) : Ev (tOp rMulI ta tb) σ F H (i * j) := ev_op (rd_I hc fun _ => rfl) ha hb
theorem ev_div (hc : CDivW i j) (ha : Ev ta σ F H i) (hb : Ev tb σ F H j) : Ev (tOp rDivI ta tb) σ F H (i / j) := ev_op (rd_I hc fun _ => rfl) ha hb
theorem ev_mod (hc : 0 < j) (ha : Ev ta σ F H i) (hb : Ev tb σ F H j) : Ev (tOp rModI ta tb) σ F H (i % j) := ev_op (rd_I hc fun _ => rfl) ha hb
theorem ev_shl (hc : CPow i j) (ha : Ev ta σ F H i) (hb : Ev tb σ F H j) : Ev (tOp rShlI ta tb) σ F H (i * 2 ^ j.toNat) := ev_op (rd_I hc fun _ => rfl) ha hb
theorem ev_pow (hc : 0 ≤ j ∧ (Builtin.Int.intBits i : Int) * j ≤ 2 ^ 27) (ha : Ev ta σ F H i) (hb : Ev tb σ F H j) : Ev (tOp rPowI ta tb) σ F H (i ^ j.toNat) := ev_op (rd_I hc fun _ => rfl) ha hb
theorem ev_or (ha : Ev ta σ F H i) (hb : Ev tb σ F H j) : Ev (tOp rOrI ta tb) σ F H (Builtin.bitOr i j) := ev_op (rd_I0 fun _ => rfl) ha hb
theorem ev_lt (ha : Ev ta σ F H i) (hb : Ev tb σ F H j) : Ev (tOp rLt ta tb) σ F H (decide (i < j)) := ev_op (rd_I0 fun _ => rfl) ha hb
theorem ev_le (ha : Ev ta σ F H i) (hb : Ev tb σ F H j) : Ev (tOp rLe ta tb) σ F H (decide (i ≤ j)) := ev_op (rd_I0 fun _ => rfl) ha hb
theorem ev_gt (ha : Ev ta σ F H i) (hb : Ev tb σ F H j) : Ev (tOp rGt' ta tb) σ F H (decide (j < i)) := ev_op (rd_I0 fun _ => rfl) ha hb
theorem ev_ge (ha : Ev ta σ F H i) (hb : Ev tb σ F H j) : Ev (tOp rGe' ta tb) σ F H (decide (j ≤ i)) := ev_op (rd_I0 fun _ => rfl) ha hb
theorem ev_adds (hz : x.length + y.length ≤ sizeLine) (ha : Ev ta σ F H x) (hb : Ev tb σ F H y) : Ev (tOp rAddS2 ta tb) σ F H (x ++ y) := ev_op (fun F H _ _ Q s rx ry q => ⟨x, y, rx, ry, hz, q _ F H (Grow.refl s) rfl⟩) ha hb
theorem ev_eqI (ha : Ev ta σ F H i) (hb : Ev tb σ F H j) : Ev (tOp rEq ta tb) σ F H (decide (i = j)) := ev_op (fun F H v u Q s rx ry q => by
  cases rx; cases ry
  exact ⟨rfl, q _ F H (Grow.refl s) (by show V.bl _ = V.bl _; congr 1; simp)⟩) ha hb
theorem ev_neI (ha : Ev ta σ F H i) (hb : Ev tb σ F H j) : Ev (tOp rNe ta tb) σ F H (!decide (i = j)) := ev_op (fun F H v u Q s rx ry q => by
  cases rx; cases ry
  exact ⟨rfl, q _ F H (Grow.refl s) (by show V.bl _ = V.bl _; congr 1; simp)⟩) ha hb
theorem ev_eqS (ha : Ev ta σ F H x) (hb : Ev tb σ F H y) : Ev (tOp rEq ta tb) σ F H (decide (x = y)) := ev_op (fun F H v u Q s rx ry q => by
  cases rx; cases ry
  exact ⟨rfl, q _ F H (Grow.refl s) (by show V.bl _ = V.bl _; congr 1; simp)⟩) ha hb
theorem ev_neS (ha : Ev ta σ F H x) (hb : Ev tb σ F H y) : Ev (tOp rNe ta tb) σ F H (!decide (x = y)) := ev_op (fun F H v u Q s rx ry q => by
  cases rx; cases ry
  exact ⟨rfl, q _ F H (Grow.refl s) (by show V.bl _ = V.bl _; congr 1; simp)⟩) ha hb
theorem ev_ltS (ha : Ev ta σ F H x) (hb : Ev tb σ F H y) : Ev (tOp rLtS ta tb) σ F H (decide (x.cps.toList < y.cps.toList)) := ev_op (fun F H _ _ Q s rx ry q => ⟨x, y, rx, ry, q _ F H (Grow.refl s) rfl⟩) ha hb
theorem rd_leS : R2D rLeS x y (!decide (y.cps.toList < x.cps.toList)) := fun F H _ _ Q s rx ry q => ⟨x, y, rx, ry, q _ F H (Grow.refl s) rfl⟩
theorem rd_lt : R2D rLt i j (decide (i < j)) := rd_I0 fun _ => rfl
theorem rd_le : R2D rLe i j (decide (i ≤ j)) := rd_I0 fun _ => rfl
theorem ev_leS (ha : Ev ta σ F H x) (hb : Ev tb σ F H y) : Ev (tOp rLeS ta tb) σ F H (!decide (y.cps.toList < x.cps.toList)) := ev_op rd_leS ha hb
theorem ev_insg {neg : Bool} {n : Nat} (ha : Ev ta σ F H (⟨#[n]⟩ : Str)) (hb : Ev tb σ F H y) : Ev (tOp (rInSg neg) ta tb) σ F H (neg ^^ decide (n ∈ y.cps.toList)) := ev_op (fun F H _ _ Q s rx ry q => ⟨n, y, rx, ry, q _ F H (Grow.refl s) rfl⟩) ha hb
/-- x is None, of an optional thing that is no None itself -/
class NoNone (α : Type) [Rep α] : Prop where
  no : ∀ {F : Hp} {a : α}, ¬ rep F .non a
instance : NoNone Int := ⟨fun h => nomatch (show V.non = V.int _ from h)⟩
instance : NoNone Str := ⟨fun h => nomatch (show V.non = V.str _ from h)⟩
instance {α : Type} [Rep α] : NoNone (List α) := ⟨fun h => by obtain ⟨_, _, e, _⟩ := h; cases e⟩
instance {α β : Type} [Rep α] [Rep β] : NoNone (α × β) := ⟨fun h => by obtain ⟨_, _, _, e, _⟩ := h; cases e⟩
theorem opt_non [NoNone α] {F : Hp} {v : V} {o : Option α} (r : rep F v o) : decide (v = .non) = o.isNone := by
  cases o with
  | none => cases (show v = .non from r); rfl
  | some z =>
    have r' : rep F v z := r
    refine decide_eq_false fun e => ?_
    rw [e] at r'
    exact NoNone.no r'
theorem ev_is [NoNone α] {o : Option α} (ha : Ev ta σ F H o) : Ev (tOp rIs ta (tC .non)) σ F H o.isNone := fun F1 H1 g Q q => ha F1 H1 g _ fun v F2 H2 g2 rv => ⟨rfl, q _ F2 H2 g2 (congrArg V.bl (opt_non rv))⟩
theorem ev_isnt [NoNone α] {o : Option α} (ha : Ev ta σ F H o) : Ev (tOp rIsnt ta (tC .non)) σ F H (!o.isNone) := fun F1 H1 g Q q => ha F1 H1 g _ fun v F2 H2 g2 rv => ⟨rfl, q _ F2 H2 g2 (congrArg (fun k => V.bl (!k)) (opt_non rv))⟩
/-! builtins -/
theorem ev_lenS (hz : x.length ≤ sizeLine) (ha : Ev ta σ F H x) : Ev (tCB rLenS' (tCons ta tNil)) σ F H (x.length : Int) := ev_cb1 (fun F H vs Q s ⟨v, e, r⟩ q => ⟨x, by rw [e, show v = V.str x from r], hz, q _ F H (Grow.refl s) rfl⟩) ha
theorem sq_of {F H : Hp} {p : Addr} {vs : List V} (s : Same F H) (e : F p = some (.lst vs)) : SqL K H p vs := .inl (.inl (s _ _ e))
theorem st_of {F H : Hp} {p : Addr} {vs : List V} (s : Same F H) (e : F p = some (.tup vs)) : SqT K H p vs := .inl (.inl (s _ _ e))
theorem paired_len {α β : Type} {R : α → β → Prop} {a : List α} {b : List β} (h : Paired R a b) : a.length = b.length := Paired.length h
theorem ev_lenL {zs : List α} (ha : Ev ta σ F H zs) : Ev (tCB (rLenL K) (tCons ta tNil)) σ F H (zs.length : Int) := ev_cb1 (fun F H vs Q s ⟨v, e, r⟩ q => by
  obtain ⟨p, us, rfl, e2, h⟩ := r
  exact ⟨p, us, e, .inl (sq_of s e2), by rw [paired_len h]; exact q _ F H (Grow.refl s) rfl⟩) ha
theorem ev_str (hz : i.natAbs.log2 < 1920) (ha : Ev ta σ F H i) : Ev (tCB rStrI (tCons ta tNil)) σ F H (toString i : Str) := ev_cb1 (fun F H vs Q s ⟨v, e, r⟩ q => ⟨i, by rw [e, show v = V.int i from r], hz, q _ F H (Grow.refl s) rfl⟩) ha
theorem ev_int (ha : Ev ta σ F H i) : Ev (tCB rIntI (tCons ta tNil)) σ F H i := ev_cb1 (fun F H vs Q s ⟨v, e, r⟩ q => .inl ⟨i, by rw [e, show v = V.int i from r], q _ F H (Grow.refl s) rfl⟩) ha
theorem ev_ints (h : PySem.intText? x = some i) (hz : x.length ≤ 640) (ha : Ev ta σ F H x) : Ev (tCB rIntS (tCons ta tNil)) σ F H i := ev_cb1 (fun F H vs Q s ⟨v, e, r⟩ q => ⟨x, i, by rw [e, show v = V.str x from r], h, hz, q _ F H (Grow.refl s) rfl⟩) ha
theorem ev_max2 (ha : Ev ta σ F H i) (hb : Ev tb σ F H j) : Ev (tCB rMax2 (tCons ta (tCons tb tNil))) σ F H (if j > i then j else i) := ev_cb2 (fun F H vs Q s ⟨v, u, e, r1, r2⟩ q => ⟨i, j, by rw [e, show v = V.int i from r1, show u = V.int j from r2], q _ F H (Grow.refl s) rfl⟩) ha hb
theorem ev_min2 (ha : Ev ta σ F H i) (hb : Ev tb σ F H j) : Ev (tCB rMin2 (tCons ta (tCons tb tNil))) σ F H (if j < i then j else i) := ev_cb2 (fun F H vs Q s ⟨v, u, e, r1, r2⟩ q => ⟨i, j, by rw [e, show v = V.int i from r1, show u = V.int j from r2], q _ F H (Grow.refl s) rfl⟩) ha hb
theorem ev_all {bs : List Bool} (ha : Ev ta σ F H bs) : Ev (tCB (rAll K) (tCons ta tNil)) σ F H (bs.all id) := ev_cb1 (fun F H vs Q s ⟨v, e, r⟩ q => by
  obtain ⟨p, us, rfl, e2, h⟩ := r
  exact ⟨p, bs, e, by rw [← paired_bls h]; exact sq_of s e2, q _ F H (Grow.refl s) rfl⟩) ha
theorem ev_any {bs : List Bool} (ha : Ev ta σ F H bs) : Ev (tCB (rAny K) (tCons ta tNil)) σ F H (bs.any id) := ev_cb1 (fun F H vs Q s ⟨v, e, r⟩ q => by
  obtain ⟨p, us, rfl, e2, h⟩ := r
  exact ⟨p, bs, e, by rw [← paired_bls h]; exact sq_of s e2, q _ F H (Grow.refl s) rfl⟩) ha
theorem ev_sum {ns : List Int} (ha : Ev ta σ F H ns) : Ev (tCB (rSum K) (tCons ta tNil)) σ F H ns.sum := ev_cb1 (fun F H vs Q s ⟨v, e, r⟩ q => by
  obtain ⟨p, us, rfl, e2, h⟩ := r
  exact ⟨p, ns, e, by rw [← paired_ints h]; exact sq_of s e2, q _ F H (Grow.refl s) rfl⟩) ha
/-! lists, tuples -/
theorem rep_lst {p : Addr} {vs : List V} {zs : List α} {F : Hp} (e : F p = some (.lst vs)) (h : Paired (rep F) vs zs) : rep F (.ref p) zs := ⟨p, vs, rfl, e, h⟩
theorem rep_tup {p : Addr} {v w : V} {F : Hp} (e : F p = some (.tup [v, w])) (h1 : rep F v a) (h2 : rep F w b) : rep F (.ref p) (a, b) := ⟨p, v, w, rfl, e, h1, h2⟩
theorem ev_lst0 : Ev (tLst tNil) σ F H ([] : List α) := fun F1 H1 g Q q => ⟨Nat.zero_le _, fun p n => q _ _ _ (Grow.ice g.sub n) (rep_lst upd_same .nil)⟩
theorem ev_lst1 (ha : Ev ta σ F H a) : Ev (tLst (tCons ta tNil)) σ F H [a] := fun F1 H1 g Q q => ha F1 H1 g _ fun v F2 H2 g2 rv => ⟨(by show 1 ≤ sizeLine; decide), fun p n => q _ _ _ (g2.trans (Grow.ice g2.sub n)) (rep_lst upd_same (.cons (Rep.mono (Grow.ice (M := fun _ => False) g2.sub n).fr rv) .nil))⟩
theorem ev_tup2 (ha : Ev ta σ F H a) (hb : Ev tb σ F H b) : Ev (tTup (tCons ta (tCons tb tNil))) σ F H (a, b) := fun F1 H1 g Q q => ha F1 H1 g _ fun v F2 H2 g2 rv => hb F2 H2 (g.trans g2) _ fun w F3 H3 g3 rw' =>
  ⟨(by show 2 ≤ sizeLine; decide), fun p n => q _ _ _ ((g2.trans g3).trans (Grow.ice g3.sub n)) (rep_tup upd_same (Rep.mono (Grow.ice (M := fun _ => False) g3.sub n).fr (Rep.mono g3.fr rv)) (Rep.mono (Grow.ice (M := fun _ => False) g3.sub n).fr rw'))⟩
theorem ev_cat {zs ws : List α} (hz : zs.length + ws.length ≤ sizeLine) (ha : Ev ta σ F H zs) (hb : Ev tb σ F H ws) : Ev (tOp rCat ta tb) σ F H (zs ++ ws) := ev_op (fun F H v u Q s rx ry q => by
  obtain ⟨p, vs, rfl, e1, h1⟩ := rx
  obtain ⟨r, us, rfl, e2, h2⟩ := ry
  refine ⟨p, r, vs, us, rfl, rfl, s _ _ e1, s _ _ e2, by rw [paired_len h1, paired_len h2]; exact hz, fun l n => ?_⟩
  have g := Grow.ice (M := fun _ => False) (o := .lst (vs ++ us)) s n
  exact q _ _ _ g (rep_lst upd_same (paired_app (L2.Paired.mapP h1 fun _ _ r => Rep.mono g.fr r) (L2.Paired.mapP h2 fun _ _ r => Rep.mono g.fr r)))) ha hb
theorem ev_ixL {zs : List α} {n : Nat} (ha : Ev ta σ F H zs) (hb : Ev tb σ F H (n : Int)) (h : zs[n]? = some a) : Ev (tOp (rIxL K) ta tb) σ F H a := ev_op (fun F H v u Q s rx ry q => by
  obtain ⟨p, vs, rfl, e1, h1⟩ := rx
  obtain ⟨w, e2, r⟩ := paired_at' h1 h
  exact ⟨p, vs, (n : Int), w, rfl, ry, sq_of s e1, atI_nat e2, q _ F H (Grow.refl s) r⟩) ha hb
theorem ev_ixS {n m : Nat} (hz : x.length ≤ sizeLine) (ha : Ev ta σ F H x) (hb : Ev tb σ F H (n : Int)) (h : x.cps.toList[n]? = some m) : Ev (tOp rIxS ta tb) σ F H (⟨#[m]⟩ : Str) := ev_op (fun F H v u Q s rx ry q => by
  cases rx
  exact ⟨x, (n : Int), m, rfl, ry, hz, atI_nat h, q _ F H (Grow.refl s) rfl⟩) ha hb
theorem ev_ixT1 {b : β} (ha : Ev ta σ F H (a, b)) : Ev (tOp (rIxT K) ta (tC (.int 0))) σ F H a := ev_op (b := (0 : Int)) (fun F H v u Q s rx ry q => by
  obtain ⟨p, v1, v2, rfl, e1, h1, h2⟩ := rx
  exact ⟨p, [v1, v2], 0, v1, rfl, ry, st_of s e1, rfl, q _ F H (Grow.refl s) h1⟩) ha ev_i
theorem ev_ixT2 {b : β} (ha : Ev ta σ F H (a, b)) : Ev (tOp (rIxT K) ta (tC (.int 1))) σ F H b := ev_op (b := (1 : Int)) (fun F H v u Q s rx ry q => by
  obtain ⟨p, v1, v2, rfl, e1, h1, h2⟩ := rx
  exact ⟨p, [v1, v2], 1, v2, rfl, ry, st_of s e1, rfl, q _ F H (Grow.refl s) h2⟩) ha ev_i
/-! parts of slices -/
def EvO (to : TO) (σ : L2.St) (F H : Hp) (o : Option Int) : Prop := ∀ F1 H1, Gr F H F1 H1 → ∀ Q : Option Int → Hp → Prop, (∀ F2 H2, Gr F1 H1 F2 H2 → Q o H2) → to σ H1 Q
theorem eo_none : EvO tNoPart σ F H none := fun F1 H1 g Q q => q F1 H1 (Grow.refl g.sub)
theorem eo_some (ha : Ev ta σ F H i) : EvO (tPart ta) σ F H (some i) := fun F1 H1 g Q q => ha F1 H1 g _ fun v F2 H2 g2 rv => ⟨i, rv, q F2 H2 g2⟩
def cutL {α : Type} (xs : List α) (lo hi : Option Int) : List α := (xs.drop (HT.sIx xs.length 0 lo)).take (HT.sIx xs.length xs.length hi - HT.sIx xs.length 0 lo)
theorem paired_cut {α β : Type} {R : α → β → Prop} {a : List α} {b : List β} (h : Paired R a b) (lo hi : Option Int) : Paired R (cutL a lo hi) (cutL b lo hi) := by
  unfold cutL
  rw [paired_len h]
  exact paired_take _ (paired_drop _ h)
theorem ev_slL {zs : List α} {to tp : TO} {lo hi : Option Int} (ha : Ev ta σ F H zs) (h1 : EvO to σ F H lo) (h2 : EvO tp σ F H hi) : Ev (tSl (rSlL K) ta to tp) σ F H (cutL zs lo hi) := fun F1 H1 g Q q =>
  ha F1 H1 g _ fun v F2 H2 g2 rv => h1 F2 H2 (g.trans g2) _ fun F3 H3 g3 => h2 F3 H3 ((g.trans g2).trans g3) _ fun F4 H4 g4 => by
    obtain ⟨p, vs, rfl, e1, hp⟩ := rv
    refine ⟨p, vs, rfl, sq_of g4.sub (g4.fr _ _ (g3.fr _ _ e1)), fun l n => ?_⟩
    have gi := Grow.ice (M := fun _ => False) (o := .lst (cutL vs lo hi)) g4.sub n
    exact q _ _ _ (((g2.trans g3).trans g4).trans gi) (rep_lst (vs := cutL vs lo hi) upd_same (paired_cut (L2.Paired.mapP hp fun _ _ r => Rep.mono (g3.fr.trans (g4.fr.trans gi.fr)) r) lo hi))
theorem ev_slS {to tp : TO} {lo hi : Option Int} (hz : x.length ≤ sizeLine) (ha : Ev ta σ F H x) (h1 : EvO to σ F H lo) (h2 : EvO tp σ F H hi) : Ev (tSl rSlS ta to tp) σ F H (cutS x lo hi) := fun F1 H1 g Q q =>
  ha F1 H1 g _ fun v F2 H2 g2 rv => h1 F2 H2 (g.trans g2) _ fun F3 H3 g3 => h2 F3 H3 ((g.trans g2).trans g3) _ fun F4 H4 g4 => ⟨x, rv, hz, q _ F4 H4 ((g2.trans g3).trans g4) rfl⟩
/-! texts -/
theorem ev_split {z : Str} (hz : (z.length == 0) = false) (hx : x.length + 2 ≤ sizeLine) (ha : Ev ta σ F H x) (hb : Ev tb σ F H z) :
    Ev (tM1 (fun x xs H Q => ∃ a b, x = .str a ∧ xs = [.str b] ∧ (b.length == 0) = false ∧ a.length + 2 ≤ sizeLine ∧ rNewStrs (Txt.split a b) H Q) ta tb) σ F H (Txt.split x z) := fun F1 H1 g Q q =>
  ha F1 H1 g _ fun v F2 H2 g2 rv => ⟨⟨x, rv⟩, hb F2 H2 (g.trans g2) _ fun w F3 H3 g3 rw' => ⟨x, z, rv, congrArg (fun y => [y]) rw', hz, hx, fun p n => q _ _ _ ((g2.trans g3).trans (Grow.ice g3.sub n)) (rep_lst upd_same (strs_paired _))⟩⟩
theorem ev_join {zs : List Str} (hz : (zs.map (·.length)).sum + zs.length * x.length ≤ 16777216) (ha : Ev ta σ F H x) (hb : Ev tb σ F H zs) :
    Ev (tM1 (fun x xs H Q => ∃ a p, ∃ ys : List Str, x = .str a ∧ xs = [.ref p] ∧ (SqL K H p (ys.map V.str) ∨ SqT K H p (ys.map V.str)) ∧ (ys.map (·.length)).sum + ys.length * a.length ≤ 16777216 ∧ Q (.str (Txt.join a ys)) H) ta tb) σ F H (Txt.join x zs) := fun F1 H1 g Q q =>
  ha F1 H1 g _ fun v F2 H2 g2 rv => ⟨⟨x, rv⟩, hb F2 H2 (g.trans g2) _ fun w F3 H3 g3 rw' => by
    obtain ⟨p, vs, rfl, e, h⟩ := rw'
    exact ⟨x, p, zs, rv, rfl, .inl (by rw [← paired_strs h]; exact sq_of g3.sub e), hz, q _ _ _ (g2.trans g3) rfl⟩⟩
theorem ev_starts {z : Str} (ha : Ev ta σ F H x) (hb : Ev tb σ F H z) : Ev (tM1 rStarts ta tb) σ F H (Txt.startswith x z) := fun F1 H1 g Q q =>
  ha F1 H1 g _ fun v F2 H2 g2 rv => ⟨⟨x, rv⟩, hb F2 H2 (g.trans g2) _ fun w F3 H3 g3 rw' => ⟨x, z, rv, congrArg (fun y => [y]) rw', q _ _ _ (g2.trans g3) rfl⟩⟩
end
/-! ### walks of data -/
/-- the walk J yields xs, whatever grows -/
structure Wlk {α : Type} [Rep α] (J : It) (F : Hp) (xs : List α) : Prop where
  go : ∀ F' H', Same F F' → Same F' H' → ∀ i, i < xs.length → J.go i H'
  stop : ∀ F' H', Same F F' → Same F' H' → J.stop xs.length H'
  yld : ∀ F' H', Same F F' → Same F' H' → ∀ (i : Nat) (z : α), xs[i]? = some z → ∀ x H'', J.yld i H' x H'' → ∃ F'', Gr F' H' F'' H'' ∧ rep F'' x z
def EvI {α : Type} [Rep α] (wi : TI) (σ : L2.St) (F H : Hp) (xs : List α) : Prop := ∀ F1 H1, Gr F H F1 H1 → ∀ R : It → Hp → Prop, (∀ J F2 H2, Gr F1 H1 F2 H2 → Wlk J F2 xs → R J H2) → wi σ H1 R
section
variable {α β γ : Type} [Rep α] [Rep β] [Rep γ] {K : PySem.W.Frag} {σ : L2.St} {F H : Hp} {ta tb te : TE} {i j : Int}
theorem ei_list {xs : List α} (h : Ev ta σ F H xs) : EvI (iList K ta) σ F H xs := fun F1 H1 g R r => h F1 H1 g _ fun v F2 H2 g2 rv => by
  obtain ⟨p, vs, rfl, e, hp⟩ := rv
  have sq : ∀ {F' H' : Hp}, Same F2 F' → Same F' H' → SqL K H' p vs := fun s1 s2 => .inl (.inl (s2 _ _ (s1 _ _ e)))
  refine ⟨p, rfl, ⟨vs, sq (Same.refl _) g2.sub⟩, r _ F2 H2 g2 ⟨fun F' H' s1 s2 i hi => ?_, fun F' H' s1 s2 => ⟨vs, sq s1 s2, by rw [paired_len hp]; exact Nat.le_refl _⟩, fun F' H' s1 s2 i w hw x H'' y => ?_⟩⟩
  · exact ⟨vs, vs[i]'(by rw [paired_len hp]; exact hi), sq s1 s2, List.getElem?_eq_getElem _⟩
  · obtain ⟨eH, y⟩ := y
    subst eH
    obtain ⟨z, e1, e2⟩ := paired_at hp (y vs (sq s1 s2))
    rw [hw] at e1
    cases e1
    exact ⟨F', Grow.refl s2, Rep.mono s1 e2⟩
def ups (lo : Int) (n : Nat) : List Int := (List.range n).map fun k => lo + (k : Nat)
theorem ups_len (lo : Int) (n : Nat) : (ups lo n).length = n := by simp [ups]
theorem ups_at {lo z : Int} {n i : Nat} (h : (ups lo n)[i]? = some z) : i < n ∧ z = lo + (i : Nat) := by
  unfold ups at h
  rw [List.getElem?_map, Option.map_eq_some_iff] at h
  obtain ⟨k, hk, e⟩ := h
  obtain ⟨l, e2⟩ := List.getElem?_eq_some_iff.mp hk
  rw [List.getElem_range] at e2
  rw [List.length_range] at l
  exact ⟨l, by rw [← e, e2]⟩
theorem wlk_range {lo : Int} {n : Nat} : Wlk (Itr lo n) F (ups lo n) := ⟨fun F' H' s1 s2 i hi => by rw [ups_len] at hi; exact hi, fun F' H' s1 s2 => by rw [ups_len]; exact Nat.le_refl n, fun F' H' s1 s2 i z hz x H'' y => by
  obtain ⟨eH, e⟩ := y
  subst eH
  exact ⟨F', Grow.refl s2, by rw [(ups_at hz).2]; exact e⟩⟩
theorem ei_range1 (hi : -(2 ^ 62) ≤ i ∧ i < 2 ^ 62) (h : Ev ta σ F H i) : EvI (iRng1 (tCons ta tNil)) σ F H (ups 0 i.toNat) := fun F1 H1 g R r => h F1 H1 g _ fun v F2 H2 g2 rv =>
  ⟨i, congrArg (fun y => [y]) rv, hi.1, hi.2, r _ F2 H2 g2 wlk_range⟩
theorem ei_range2 (hi : -(2 ^ 62) ≤ i ∧ i < 2 ^ 62) (hj : -(2 ^ 62) ≤ j ∧ j < 2 ^ 62) (h : Ev ta σ F H i) (h2 : Ev tb σ F H j) : EvI (iRng2 (tCons ta (tCons tb tNil))) σ F H (ups i (j - i).toNat) := fun F1 H1 g R r => h F1 H1 g _ fun v F2 H2 g2 rv =>
  h2 F2 H2 (g.trans g2) _ fun w F3 H3 g3 rw' => ⟨i, j, by rw [show v = V.int i from rv, show w = V.int j from rw'], ⟨hi.1, hi.2, hj.1, hj.2⟩, r _ F3 H3 (g2.trans g3) wlk_range⟩
def sgs (x : Str) : List Str := x.cps.toList.map fun c => ⟨#[c]⟩
theorem sgs_len (x : Str) : (sgs x).length = x.cps.size := by simp [sgs]
theorem sgs_at {x z : Str} {i c : Nat} (e : x.cps[i]? = some c) (h : (sgs x)[i]? = some z) : z = ⟨#[c]⟩ := by
  unfold sgs at h
  rw [List.getElem?_map, Array.getElem?_toList, e] at h
  exact (Option.some.inj h).symm
theorem ei_str {x : Str} (h : Ev ta σ F H x) : EvI (iStr ta) σ F H (sgs x) := fun F1 H1 g R r => h F1 H1 g _ fun v F2 H2 g2 rv => ⟨x, rv, r _ F2 H2 g2 ⟨fun F' H' s1 s2 i hi => by rw [sgs_len] at hi; exact hi, fun F' H' s1 s2 => by rw [sgs_len]; exact Nat.le_refl _, fun F' H' s1 s2 i z hz v H'' y => by
  obtain ⟨eH, c, e, ev⟩ := y
  subst eH
  exact ⟨F', Grow.refl s2, by rw [sgs_at e hz]; exact ev⟩⟩⟩
def numbered {α : Type} (xs : List α) : List (Int × α) := xs.zipIdx.map fun p => ((p.2 : Int), p.1)
theorem numbered_len {α : Type} (xs : List α) : (numbered xs).length = xs.length := by simp [numbered]
theorem numbered_at {α : Type} {xs : List α} {i : Nat} {z : Int × α} (h : (numbered xs)[i]? = some z) : ∃ y, xs[i]? = some y ∧ z = ((i : Int), y) := by
  unfold numbered at h
  rw [List.getElem?_map, List.getElem?_zipIdx, Option.map_map, Option.map_eq_some_iff] at h
  obtain ⟨y, e, e2⟩ := h
  exact ⟨y, e, by rw [← e2]; simp⟩
theorem ei_enumS {x : Str} (h : Ev ta σ F H x) : EvI (iEnumS ta) σ F H (numbered (sgs x)) := fun F1 H1 g R r => h F1 H1 g _ fun v F2 H2 g2 rv => ⟨x, rv, r _ F2 H2 g2 ⟨fun F' H' s1 s2 i hi => by rw [numbered_len, sgs_len] at hi; exact hi, fun F' H' s1 s2 => by rw [numbered_len, sgs_len]; exact rfl, fun F' H' s1 s2 i z hz v H'' y => by
  obtain ⟨T, c, ev, n, e, eH⟩ := y
  subst eH ev
  obtain ⟨w, e1, rfl⟩ := numbered_at hz
  rw [sgs_at e e1]
  exact ⟨_, Grow.ice s2 n, rep_tup upd_same rfl rfl⟩⟩⟩
theorem ei_enumL {xs : List α} (h : Ev ta σ F H xs) : EvI (iEnum K (tCons ta tNil)) σ F H (numbered xs) := fun F1 H1 g R r => h F1 H1 g _ fun v F2 H2 g2 rv => by
  obtain ⟨p, vs, rfl, e, hp⟩ := rv
  have sq : ∀ {F' H' : Hp}, Same F2 F' → Same F' H' → SqL K H' p vs := fun s1 s2 => .inl (.inl (s2 _ _ (s1 _ _ e)))
  refine ⟨p, vs, rfl, sq (Same.refl _) g2.sub, r _ F2 H2 g2 ⟨fun F' H' s1 s2 i hi => ?_, fun F' H' s1 s2 => ⟨vs, sq s1 s2, by rw [paired_len hp, numbered_len]; exact Nat.le_refl _⟩, fun F' H' s1 s2 i z hz x H'' y => ?_⟩⟩
  · rw [numbered_len] at hi
    exact ⟨vs, vs[i]'(by rw [paired_len hp]; exact hi), sq s1 s2, List.getElem?_eq_getElem _⟩
  · obtain ⟨T, w, ev, n, eH, y⟩ := y
    subst eH ev
    obtain ⟨u, e1, e2⟩ := paired_at hp (y vs (sq s1 s2))
    obtain ⟨u', e3, rfl⟩ := numbered_at hz
    rw [e1] at e3
    cases e3
    have gi := Grow.ice (M := fun _ => False) (o := .tup [.int (i : Nat), w]) s2 n
    exact ⟨_, gi, rep_tup upd_same rfl (Rep.mono (s1.trans gi.fr) e2)⟩
theorem ei_zip {xs : List α} {ys : List β} (h : Ev ta σ F H xs) (h2 : Ev tb σ F H ys) : EvI (iZip K (tCons ta (tCons tb tNil))) σ F H (xs.zip ys) := fun F1 H1 g R r => h F1 H1 g _ fun v F2 H2 g2 rv => h2 F2 H2 (g.trans g2) _ fun w F3 H3 g3 rw' => by
  obtain ⟨p, vs, rfl, e, hp⟩ := rv
  obtain ⟨r', us, rfl, e2, hp2⟩ := rw'
  have sq : ∀ {F' H' : Hp}, Same F3 F' → Same F' H' → SqL K H' p vs := fun s1 s2 => .inl (.inl (s2 _ _ (s1 _ _ (g3.fr _ _ e))))
  have sq2 : ∀ {F' H' : Hp}, Same F3 F' → Same F' H' → SqL K H' r' us := fun s1 s2 => .inl (.inl (s2 _ _ (s1 _ _ e2)))
  have n1 := paired_len hp
  have n2 := paired_len hp2
  refine ⟨p, r', vs, us, rfl, sq (Same.refl _) g3.sub, sq2 (Same.refl _) g3.sub, r _ F3 H3 (g2.trans g3) ⟨fun F' H' s1 s2 i hi => ?_, fun F' H' s1 s2 => ?_, fun F' H' s1 s2 i z hz x H'' y => ?_⟩⟩
  · rw [List.length_zip] at hi
    exact ⟨vs, us, vs[i]'(by omega), us[i]'(by omega), sq s1 s2, sq2 s1 s2, List.getElem?_eq_getElem _, List.getElem?_eq_getElem _⟩
  · rw [List.length_zip]
    refine ⟨vs, us, sq s1 s2, sq2 s1 s2, ?_⟩
    omega
  · obtain ⟨T, x1, x2, ev, n, eH, y1, y2⟩ := y
    subst eH ev
    obtain ⟨z1, a1, b1⟩ := paired_at hp (y1 vs (sq s1 s2))
    obtain ⟨z2, a2, b2⟩ := paired_at hp2 (y2 us (sq2 s1 s2))
    have gi := Grow.ice (M := fun _ => False) (o := .tup [x1, x2]) s2 n
    rw [List.getElem?_zip_eq_some] at hz
    rw [hz.1] at a1
    rw [hz.2] at a2
    cases a1
    cases a2
    exact ⟨_, gi, rep_tup upd_same (Rep.mono (g3.fr.trans (s1.trans gi.fr)) b1) (Rep.mono (s1.trans gi.fr) b2)⟩
end
end Ly
set_option maxHeartbeats 4000000
/-! Lz: comprehensions, loops, statements, calls over data -/
namespace Ly
open PySem PySem.Spec PyProof.Rows L2 SX
open Rep
section
variable {α β γ : Type} [Rep α] [Rep β] [Rep γ] {K : PySem.W.Frag} {σ : L2.St} {F H : Hp} {ta tb te tk tv : TE} {wi : TI} {g : TG} {tt : TT} {vs : List Nat}
theorem filter_snoc {α : Type} (p : α → Bool) (xs : List α) {i : Nat} {z : α} (h : xs[i]? = some z) : (xs.take (i + 1)).filter p = (xs.take i).filter p ++ (if p z = true then [z] else []) := by
  rw [List.take_add_one, h, List.filter_append]
  congr 1
  cases e : p z <;> simp [List.filter, e]
/-- a new object, alive -/
def EvN (te : TE) (σ : L2.St) (F H : Hp) (R : Hp → HO → Prop) : Prop := ∀ F1 H1, Gr F H F1 H1 → ∀ Q : VK, (∀ p o F2 H2, Gr F1 H1 F2 H2 → H1 p = none → F2 p = none → H2 p = some o → R F2 o → Q (.ref p) H2) → te σ H1 Q
def IsL {α : Type} [Rep α] (ds : List α) : Hp → HO → Prop := fun F o => ∃ us, o = .lst us ∧ Paired (rep F) us ds
theorem EvN.mono {R : Hp → HO → Prop} {F' H' : Hp} (h : EvN te σ F H R) (g : Gr F H F' H') : EvN te σ F' H' R := fun F1 H1 g1 Q q => h F1 H1 (g.trans g1) Q q
theorem EvN.go {R : Hp → HO → Prop} (h : EvN te σ F H R) (s : Same F H) {Q : VK} (k : ∀ p o F' H', Gr F H F' H' → H p = none → F' p = none → H' p = some o → R F' o → Q (.ref p) H') : te σ H Q := h F H (Grow.refl s) Q k
theorem EvN.iceL {ds : List α} (h : EvN te σ F H (IsL ds)) : Ev te σ F H ds := fun F1 H1 g Q q => h F1 H1 g Q fun p o F2 H2 g2 n f e ⟨us, eo, hp⟩ => by
  subst eo
  exact q _ _ H2 (g2.freeze n f e) (rep_lst upd_same (L2.Paired.mapP hp fun _ _ r => Rep.mono (same_ice (Same.refl _) f) r))
theorem en_lst0 : EvN (tLst tNil) σ F H (IsL ([] : List α)) := fun F1 H1 g Q q => ⟨Nat.zero_le _, fun p n => q p _ F1 _ (Grow.lay g.sub n) n (by
  cases e : F1 p with
  | none => rfl
  | some o => rw [g.sub _ _ e] at n; cases n) upd_same ⟨[], rfl, .nil⟩⟩
/-- [f x for x in xs if p x] -/
theorem en_lc {xs : List α} {p : α → Bool} {f : α → β} (hi : EvI wi σ F H xs) (hz : xs.length ≤ sizeLine)
    (hs : ∀ (i : Nat) z, xs[i]? = some z → ∀ F1 H1 x, Gr F H F1 H1 → rep F1 x z → g x (wipe σ vs) H1 (fun σ2 H2 => H2 = H1 ∧ wipe σ2 vs = wipe σ vs ∧ EvT tt σ2 F1 H1 (p z) ∧ (p z = true → Ev te σ2 F1 H1 (f z))))
    (hg : ∀ x σ' H' (A B : L2.St → Hp → Prop), (∀ a b, A a b → B a b) → g x σ' H' A → g x σ' H' B) : EvN (tLc wi g tt te vs) σ F H (IsL ((xs.filter p).map f)) := fun F0 H0 g0 Q q => hi F0 H0 g0 _ fun J F1 H1 g1 W D nD => by
  refine ⟨fun i m H' => m = xs.length - i ∧ i ≤ xs.length ∧ ∃ F' us, Gr F0 H0 F' H' ∧ Same F1 F' ∧ H0 D = none ∧ F' D = none ∧ H' D = some (.lst us) ∧ Paired (rep F') us (((xs.take i).filter p).map f), ⟨xs.length, by simp, Nat.zero_le _, ?_⟩, ?_⟩
  · have n0 : H0 D = none := by
      cases e : H0 D with
      | none => rfl
      | some o => rw [g1.same _ _ e] at nD; cases nD
    have f1 : F1 D = none := by
      cases e : F1 D with
      | none => rfl
      | some o => rw [g1.sub _ _ e] at nD; cases nD
    exact ⟨F1, [], g1.trans (Grow.lay g1.sub nD), Same.refl _, n0, f1, upd_same, .nil⟩
  rintro i m H' ⟨rfl, hi', F', us, gr, s1, n0, fD, eD, hp⟩
  by_cases hlt : i < xs.length
  · refine .inr ⟨W.go F' H' s1 gr.sub i hlt, fun H2 => ∃ F2 us, Gr F0 H0 F2 H2 ∧ Same F1 F2 ∧ F2 D = none ∧ H2 D = some (.lst us) ∧ Paired (rep F2) us (((xs.take (i + 1)).filter p).map f), fun H2 ⟨F2, us2, a1, a2, a3, a4, a5⟩ => ⟨_, by omega, rfl, hlt, F2, us2, a1, a2, n0, a3, a4, a5⟩, fun x H2 y => ?_⟩
    obtain ⟨F2, g2, rx⟩ := W.yld F' H' s1 gr.sub i _ (List.getElem?_eq_getElem hlt) x H2 y
    have gz := List.getElem?_eq_getElem hlt
    refine hg _ _ _ _ _ (fun σ2 H3 ⟨e, ew, et, ee⟩ => ?_) (hs i _ gz F2 H2 x ((g0.trans gr).trans g2) rx)
    subst e
    refine ⟨ew, et.go g2.sub fun F3 H3 g3 => ?_⟩
    have s3 := gr.fr
    have fr3 : Same F' F3 := g2.fr.trans g3.fr
    have fD3 : F3 D = none := by rw [(g2.trans g3).new D _ eD]; exact fD
    have eD3 : H3 D = some (.lst us) := Gr.at (g2.trans g3) eD
    cases c : p xs[i] with
    | false =>
      rw [if_neg Bool.false_ne_true]
      refine ⟨F3, us, gr.trans (g2.trans g3), s1.trans fr3, fD3, eD3, ?_⟩
      rw [filter_snoc p xs gz, c, if_neg Bool.false_ne_true, List.append_nil]
      exact L2.Paired.mapP hp fun _ _ r => Rep.mono fr3 r
    | true =>
      rw [if_pos rfl]
      refine (ee c) F3 H3 g3 _ fun v F4 H4 g4 rv => ?_
      have fr4 : Same F' F4 := fr3.trans g4.fr
      have fD4 : F4 D = none := by rw [g4.new D _ eD3]; exact fD3
      have hl : us.length < sizeLine := by
        rw [paired_len hp, List.length_map]
        refine Nat.lt_of_le_of_lt (List.length_filter_le _ _) ?_
        rw [List.length_take]
        omega
      refine ⟨us, g4.at eD3, hl, F4, us ++ [v], (gr.trans ((g2.trans g3).trans g4)).put (.inl n0) fD4, s1.trans fr4, fD4, upd_same, ?_⟩
      rw [filter_snoc p xs gz, c, if_pos rfl, List.map_append]
      exact paired_app (L2.Paired.mapP hp fun _ _ r => Rep.mono fr4 r) (.cons rv .nil)
  · have e : i = xs.length := by omega
    subst e
    refine .inl ⟨W.stop F' H' s1 gr.sub, ?_⟩
    rw [List.take_length] at hp
    exact q D _ F' H' gr n0 fD eD ⟨us, rfl, hp⟩
theorem ev_lc {xs : List α} {p : α → Bool} {f : α → β} (hi : EvI wi σ F H xs) (hz : xs.length ≤ sizeLine)
    (hs : ∀ (i : Nat) z, xs[i]? = some z → ∀ F1 H1 x, Gr F H F1 H1 → rep F1 x z → g x (wipe σ vs) H1 (fun σ2 H2 => H2 = H1 ∧ wipe σ2 vs = wipe σ vs ∧ EvT tt σ2 F1 H1 (p z) ∧ (p z = true → Ev te σ2 F1 H1 (f z))))
    (hg : ∀ x σ' H' (A B : L2.St → Hp → Prop), (∀ a b, A a b → B a b) → g x σ' H' A → g x σ' H' B) : Ev (tLc wi g tt te vs) σ F H ((xs.filter p).map f) := (en_lc hi hz hs hg).iceL
theorem gname_mono {i : Nat} : ∀ x σ' H' (A B : L2.St → Hp → Prop), (∀ a b, A a b → B a b) → gName i x σ' H' A → gName i x σ' H' B := fun _ _ _ _ _ h a => h _ _ a
theorem gtup_mono2 {i j : Nat} : ∀ x σ' H' (A B : L2.St → Hp → Prop), (∀ a b, A a b → B a b) → gTup K 2 (gCons (gName i) (gCons (gName j) gNil)) x σ' H' A → gTup K 2 (gCons (gName i) (gCons (gName j) gNil)) x σ' H' B :=
  fun _ _ _ _ _ h ⟨a, xs, e, sq, l, v, r, e2, v2, r2, e3, e4, z⟩ => ⟨a, xs, e, sq, l, v, r, e2, v2, r2, e3, e4, h _ _ z⟩
/-- a, b = a pair -/
theorem g_pair {i j : Nat} {a : α} {b : β} {x : V} (s : Same F H) (r : rep F x (a, b)) {R : L2.St → Hp → Prop} (k : ∀ v w, rep F v a → rep F w b → R ((σ.set i (some v)).set j (some w)) H) : gTup K 2 (gCons (gName i) (gCons (gName j) gNil)) x σ H R := by
  obtain ⟨p, v, w, rfl, e, r1, r2⟩ := r
  exact ⟨p, [v, w], rfl, st_of s e, rfl, v, [w], rfl, w, [], rfl, rfl, k v w r1 r2⟩
/-- no test, a name as the target -/
theorem ev_map {xs : List α} {f : α → β} {i : Nat} (hi : EvI wi σ F H xs) (hz : xs.length ≤ sizeLine) (hw : ∀ x, wipe ((wipe σ vs).set i (some x)) vs = wipe σ vs)
    (hs : ∀ (j : Nat) z, xs[j]? = some z → ∀ F1 H1 x, Gr F H F1 H1 → rep F1 x z → Ev te ((wipe σ vs).set i (some x)) F1 H1 (f z)) : Ev (tLc wi (gName i) tYes te vs) σ F H (xs.map f) := by
  have h := ev_lc (p := fun _ => true) (f := f) (te := te) (tt := tYes) (g := gName i) (vs := vs) hi hz (fun j z e F1 H1 x g1 r => ⟨rfl, hw x, et_yes, fun _ => hs j z e F1 H1 x g1 r⟩) gname_mono
  have e : xs.filter (fun _ => true) = xs := by simp
  rwa [e] at h
theorem ev_filter {xs : List α} {p : α → Bool} {f : α → β} {i : Nat} (hi : EvI wi σ F H xs) (hz : xs.length ≤ sizeLine) (hw : ∀ x, wipe ((wipe σ vs).set i (some x)) vs = wipe σ vs)
    (hs : ∀ (j : Nat) z, xs[j]? = some z → ∀ F1 H1 x, Gr F H F1 H1 → rep F1 x z → EvT tt ((wipe σ vs).set i (some x)) F1 H1 (p z) ∧ (p z = true → Ev te ((wipe σ vs).set i (some x)) F1 H1 (f z))) : Ev (tLc wi (gName i) tt te vs) σ F H ((xs.filter p).map f) :=
  ev_lc (g := gName i) hi hz (fun j z e F1 H1 x g1 r => ⟨rfl, hw x, (hs j z e F1 H1 x g1 r).1, (hs j z e F1 H1 x g1 r).2⟩) gname_mono
/-- a dict from pairs of unlike keys -/
theorem putK_snoc {κ : Type} [DecidableEq κ] {kvs : List (κ × V)} {k : κ} {v : V} (h : k ∉ kvs.map (·.1)) : putK kvs k v = kvs ++ [(k, v)] := by
  refine putK_new v ?_
  cases e : valV kvs k with
  | none => rfl
  | some w => exact absurd (valV_in e) h
def DRel {κ α : Type} [KeyT κ] [Rep α] (F : Hp) : Key × V → κ × α → Prop := fun p q => p.1 = KeyT.key q.1 ∧ rep F p.2 q.2
theorem drel_keys {κ α : Type} [KeyT κ] [Rep α] {F : Hp} : ∀ {kvs : List (Key × V)} {ds : List (κ × α)}, Paired (DRel F) kvs ds → kvs.map (·.1) = (ds.map (·.1)).map KeyT.key
  | _, _, .nil => rfl
  | _, _, .cons h t => by rw [List.map_cons, List.map_cons, List.map_cons, ← drel_keys t, h.1]
class KeyRep (κ : Type) [KeyT κ] [Rep κ] : Prop where
  kv : ∀ {F : Hp} {v : V} {k : κ}, rep F v k → v = kV (KeyT.key k)
instance : KeyRep Int := ⟨fun h => h⟩
instance : KeyRep Str := ⟨fun h => h⟩
theorem rep_dct {κ α : Type} [KeyT κ] [Rep α] {F : Hp} {p : Addr} {kvs : List (Key × V)} {ds : List (κ × α)} (e : F p = some (.dK kvs)) (h : Paired (DRel F) kvs ds) : rep F (.ref p) (Dct.mk ds) := ⟨p, kvs, rfl, e, h⟩
def IsD {κ α : Type} [KeyT κ] [Rep α] (ds : List (κ × α)) : Hp → HO → Prop := fun F o => ∃ us, o = .dK us ∧ Paired (DRel F) us ds
theorem EvN.iceD {κ : Type} [KeyT κ] {ds : List (κ × α)} (h : EvN te σ F H (IsD ds)) : Ev te σ F H (Dct.mk ds) := fun F1 H1 g Q q => h F1 H1 g Q fun p o F2 H2 g2 n f e ⟨us, eo, hp⟩ => by
  subst eo
  exact q _ _ H2 (g2.freeze n f e) (rep_dct upd_same (L2.Paired.mapP hp fun _ _ r => ⟨r.1, Rep.mono (same_ice (Same.refl _) f) r.2⟩))
theorem en_dict0 {κ : Type} [KeyT κ] : EvN tDNewK σ F H (IsD ([] : List (κ × α))) := fun F1 H1 g Q q p n => q p _ F1 _ (Grow.lay g.sub n) n (by
  cases e : F1 p with
  | none => rfl
  | some o => rw [g.sub _ _ e] at n; cases n) upd_same ⟨[], rfl, .nil⟩
/-- {k x: v x for x in xs if p x}, the keys unlike -/
theorem en_dc {κ : Type} [KeyT κ] [Rep κ] [KeyRep κ] {xs : List α} {p : α → Bool} {fk : α → κ} {fv : α → β} (hi : EvI wi σ F H xs) (hz : xs.length ≤ sizeLine) (nd : ((xs.filter p).map fk).Nodup)
    (hs : ∀ (i : Nat) z, xs[i]? = some z → ∀ F1 H1 x, Gr F H F1 H1 → rep F1 x z → g x (wipe σ vs) H1 (fun σ2 H2 => H2 = H1 ∧ wipe σ2 vs = wipe σ vs ∧ EvT tt σ2 F1 H1 (p z) ∧ (p z = true → Ev tk σ2 F1 H1 (fk z) ∧ Ev tv σ2 F1 H1 (fv z))))
    (hg : ∀ x σ' H' (A B : L2.St → Hp → Prop), (∀ a b, A a b → B a b) → g x σ' H' A → g x σ' H' B) : EvN (tDc wi g tt tk tv vs) σ F H (IsD ((xs.filter p).map fun x => (fk x, fv x))) := fun F0 H0 g0 Q q => hi F0 H0 g0 _ fun J F1 H1 g1 W D nD => by
  refine ⟨fun i m H' => m = xs.length - i ∧ i ≤ xs.length ∧ ∃ F' us, Gr F0 H0 F' H' ∧ Same F1 F' ∧ H0 D = none ∧ F' D = none ∧ H' D = some (.dK us) ∧ Paired (DRel F') us (((xs.take i).filter p).map fun x => (fk x, fv x)), ⟨xs.length, by simp, Nat.zero_le _, ?_⟩, ?_⟩
  · have n0 : H0 D = none := by
      cases e : H0 D with
      | none => rfl
      | some o => rw [g1.same _ _ e] at nD; cases nD
    have f1 : F1 D = none := by
      cases e : F1 D with
      | none => rfl
      | some o => rw [g1.sub _ _ e] at nD; cases nD
    exact ⟨F1, [], g1.trans (Grow.lay g1.sub nD), Same.refl _, n0, f1, upd_same, .nil⟩
  rintro i m H' ⟨rfl, hi', F', us, gr, s1, n0, fD, eD, hp⟩
  by_cases hlt : i < xs.length
  · refine .inr ⟨W.go F' H' s1 gr.sub i hlt, fun H2 => ∃ F2 us, Gr F0 H0 F2 H2 ∧ Same F1 F2 ∧ F2 D = none ∧ H2 D = some (.dK us) ∧ Paired (DRel F2) us (((xs.take (i + 1)).filter p).map fun x => (fk x, fv x)), fun H2 ⟨F2, us2, a1, a2, a3, a4, a5⟩ => ⟨_, by omega, rfl, hlt, F2, us2, a1, a2, n0, a3, a4, a5⟩, fun x H2 y => ?_⟩
    have gz := List.getElem?_eq_getElem hlt
    obtain ⟨F2, g2, rx⟩ := W.yld F' H' s1 gr.sub i _ gz x H2 y
    refine hg _ _ _ _ _ (fun σ2 H3 ⟨e, ew, et, ee⟩ => ?_) (hs i _ gz F2 H2 x ((g0.trans gr).trans g2) rx)
    subst e
    refine ⟨ew, et.go g2.sub fun F3 H3 g3 => ?_⟩
    have fr3 : Same F' F3 := g2.fr.trans g3.fr
    have fD3 : F3 D = none := by rw [(g2.trans g3).new D _ eD]; exact fD
    have eD3 : H3 D = some (.dK us) := Gr.at (g2.trans g3) eD
    cases c : p xs[i] with
    | false =>
      rw [if_neg Bool.false_ne_true]
      refine ⟨F3, us, gr.trans (g2.trans g3), s1.trans fr3, fD3, eD3, ?_⟩
      rw [filter_snoc p xs gz, c, if_neg Bool.false_ne_true, List.append_nil]
      exact L2.Paired.mapP hp fun _ _ r => ⟨r.1, Rep.mono fr3 r.2⟩
    | true =>
      rw [if_pos rfl]
      refine (ee c).1 F3 H3 g3 _ fun v F4 H4 g4 rv => ((ee c).2.mono g3) F4 H4 g4 _ fun w F5 H5 g5 rw' => ?_
      have fr5 : Same F' F5 := fr3.trans (g4.fr.trans g5.fr)
      have fD5 : F5 D = none := by rw [(g4.trans g5).new D _ eD3]; exact fD3
      have hl : us.length < sizeLine := by
        rw [paired_len hp, List.length_map]
        refine Nat.lt_of_le_of_lt (List.length_filter_le _ _) ?_
        rw [List.length_take]
        omega
      have nk : KeyT.key (fk xs[i]) ∉ us.map (·.1) := by
        rw [drel_keys hp, List.map_map, List.map_map]
        intro hm
        obtain ⟨z, hz1, hz2⟩ := List.mem_map.mp hm
        have e1 : fk z = fk xs[i] := KeyT.inj hz2
        have h2 := filter_snoc p xs gz
        rw [c, if_pos rfl] at h2
        have pre : ((xs.take (i + 1)).filter p).Sublist (xs.filter p) := (List.take_sublist _ _).filter _
        have nd2 := (pre.map fk).nodup nd
        rw [h2, List.map_append, List.map_singleton, List.nodup_append] at nd2
        exact nd2.2.2 (fk z) (List.mem_map.mpr ⟨z, hz1, rfl⟩) (fk xs[i]) (List.mem_singleton.mpr rfl) e1
      refine ⟨us, KeyT.key (fk xs[i]), KeyRep.kv rv, Gr.at (g4.trans g5) eD3, hl, F5, us ++ [(KeyT.key (fk xs[i]), w)], ?_, s1.trans fr5, fD5, ?_, ?_⟩
      · exact (gr.trans ((g2.trans g3).trans (g4.trans g5))).put (.inl n0) fD5
      · rw [upd_same, putK_snoc nk]
      · rw [filter_snoc p xs gz, c, if_pos rfl, List.map_append]
        exact paired_app (L2.Paired.mapP hp fun _ _ r => ⟨r.1, Rep.mono fr5 r.2⟩) (.cons ⟨rfl, rw'⟩ .nil)
  · have e : i = xs.length := by omega
    subst e
    refine .inl ⟨W.stop F' H' s1 gr.sub, ?_⟩
    rw [List.take_length] at hp
    exact q D _ F' H' gr n0 fD eD ⟨us, rfl, hp⟩
theorem en_dmap {κ : Type} [KeyT κ] [Rep κ] [KeyRep κ] {xs : List α} {fk : α → κ} {fv : α → β} {i : Nat} (hi : EvI wi σ F H xs) (hz : xs.length ≤ sizeLine) (nd : (xs.map fk).Nodup) (hw : ∀ x, wipe ((wipe σ vs).set i (some x)) vs = wipe σ vs)
    (hs : ∀ (j : Nat) z, xs[j]? = some z → ∀ F1 H1 x, Gr F H F1 H1 → rep F1 x z → Ev tk ((wipe σ vs).set i (some x)) F1 H1 (fk z) ∧ Ev tv ((wipe σ vs).set i (some x)) F1 H1 (fv z)) : EvN (tDc wi (gName i) tYes tk tv vs) σ F H (IsD (xs.map fun x => (fk x, fv x))) := by
  have e : xs.filter (fun _ => true) = xs := by simp
  have h := en_dc (p := fun _ => true) (fk := fk) (fv := fv) (tk := tk) (tv := tv) (tt := tYes) (g := gName i) (vs := vs) hi hz (by rw [e]; exact nd) (fun j z e F1 H1 x g1 r => ⟨rfl, hw x, et_yes, fun _ => hs j z e F1 H1 x g1 r⟩) gname_mono
  rwa [e] at h
end
/-! ### statements -/
section
variable {α β γ : Type} [Rep α] [Rep β] [Rep γ] {K : PySem.W.Frag} {σ : L2.St} {F H : Hp} {ta tb te : TE} {wi : TI} {g : TG} {c : TT} {t u tb' : TS} {D : Ends} {i j : Nat}
theorem st_asg {a : α} (s : Same F H) (h : Ev te σ F H a) (k : ∀ v F1 H1, Gr F H F1 H1 → rep F1 v a → D.nx (σ.set i (some v)) H1) : tAsg te (gName i) D σ H := h.go s k
theorem st_asgN {R : Hp → HO → Prop} (s : Same F H) (h : EvN te σ F H R) (k : ∀ p o F1 H1, Gr F H F1 H1 → H p = none → F1 p = none → H1 p = some o → R F1 o → D.nx (σ.set i (some (.ref p))) H1) : tAsg te (gName i) D σ H := h.go s k
/-- what is alive, at a return -/
theorem st_retL {p : Addr} {us : List V} {ds : List α} {F0 H0 : Hp} (hv : σ[i]? = some (some (.ref p))) (g : Gr F0 H0 F H) (n : H0 p = none) (f : F p = none) (e : H p = some (.lst us)) (hp : Paired (rep F) us ds) (k : ∀ v F1 H1, Gr F0 H0 F1 H1 → rep F1 v ds → D.rt v H1) : tRet (tVar i) D σ H :=
  ⟨_, hv, k _ _ H (g.freeze n f e) (rep_lst upd_same (L2.Paired.mapP hp fun _ _ r => Rep.mono (same_ice (Same.refl _) f) r))⟩
theorem st_retD {κ : Type} [KeyT κ] {p : Addr} {us : List (Key × V)} {ds : List (κ × α)} {F0 H0 : Hp} (hv : σ[i]? = some (some (.ref p))) (g : Gr F0 H0 F H) (n : H0 p = none) (f : F p = none) (e : H p = some (.dK us)) (hp : Paired (DRel F) us ds) (k : ∀ v F1 H1, Gr F0 H0 F1 H1 → rep F1 v (Dct.mk ds) → D.rt v H1) : tRet (tVar i) D σ H :=
  ⟨_, hv, k _ _ H (g.freeze n f e) (rep_dct upd_same (L2.Paired.mapP hp fun _ _ r => ⟨r.1, Rep.mono (same_ice (Same.refl _) f) r.2⟩))⟩
/-- d.update(e): unlike keys -/
theorem mergeK_snoc : ∀ {more kvs : List (Key × V)}, ((kvs ++ more).map (·.1)).Nodup → mergeK kvs more = kvs ++ more
  | [], kvs, _ => (List.append_nil kvs).symm
  | (k, v) :: r, kvs, h => by
    have e : putK kvs k v = kvs ++ [(k, v)] := putK_snoc (fun hm => by
      rw [List.map_append, List.map_cons, List.nodup_append] at h
      exact h.2.2 k hm k (List.mem_cons_self ..) rfl)
    show mergeK (putK kvs k v) r = _
    rw [e, mergeK_snoc (by rw [List.append_assoc]; exact h), List.append_assoc]
    rfl
theorem up_run {κ : Type} [KeyT κ] {p : Addr} {us : List (Key × V)} {ds es : List (κ × α)} {Q : VK} (s : Same F H) (hv : σ[i]? = some (some (.ref p))) (f : F p = none) (e : H p = some (.dK us)) (hp : Paired (DRel F) us ds) (hz : ds.length + es.length ≤ sizeLine) (nd : ((ds ++ es).map (·.1)).Nodup) (h : EvN ta σ F H (IsD es))
    (k : ∀ us' F1 H1, Gr F H F1 H1 → F1 p = none → H1 p = some (.dK us) → Paired (DRel F1) us' (ds ++ es) → Q .non (upd H1 p (.dK us'))) : tBM K "dict" rUpdD (tVar i) (tCons ta tNil) σ H Q := ⟨_, hv, .inr (.inr (.inl ⟨rfl, .inl ⟨us, e⟩⟩)), h.go s fun r o F1 H1 g n fr er ⟨ms, eo, hm⟩ => by
  subst eo
  have hp1 : Paired (DRel F1) us ds := L2.Paired.mapP hp fun _ _ z => ⟨z.1, Rep.mono g.fr z.2⟩
  have hpm : Paired (DRel F1) (us ++ ms) (ds ++ es) := paired_app hp1 hm
  have ndk : ((us ++ ms).map (·.1)).Nodup := by
    rw [drel_keys hpm]
    exact List.Pairwise.map _ (fun a b ne e => ne (KeyT.inj e)) nd
  refine ⟨p, r, us, ms, rfl, rfl, fun z => ?_, g.at e, er, by rw [paired_len hp, paired_len hm]; exact hz, ?_⟩
  · subst z
    rw [e] at n
    cases n
  · rw [mergeK_snoc ndk]
    exact k (us ++ ms) F1 H1 g (g.live e f) (g.at e) hpm⟩
theorem st_ret {a : α} (s : Same F H) (h : Ev te σ F H a) (k : ∀ v F1 H1, Gr F H F1 H1 → rep F1 v a → D.rt v H1) : tRet te D σ H := h.go s k
theorem st_drop {a : α} (s : Same F H) (h : Ev te σ F H a) (k : ∀ F1 H1, Gr F H F1 H1 → D.nx σ H1) : tDrop te D σ H := h.go s fun _ F1 H1 g _ => k F1 H1 g
theorem st_if {b : Bool} (s : Same F H) (h : EvT c σ F H b) (k1 : b = true → ∀ F1 H1, Gr F H F1 H1 → t D σ H1) (k2 : b = false → ∀ F1 H1, Gr F H F1 H1 → u D σ H1) : tIfS c t u D σ H := h.go s fun F1 H1 g => by
  cases b with
  | true => exact k1 rfl F1 H1 g
  | false => exact k2 rfl F1 H1 g
theorem st_par {a : α} {b : β} (s : Same F H) (h : Ev ta σ F H a) (h2 : Ev tb σ F H b) (k : ∀ v w F1 H1, Gr F H F1 H1 → rep F1 v a → rep F1 w b → D.nx ((σ.set i (some v)).set j (some w)) H1) : tPar i j (tCons ta (tCons tb tNil)) D σ H :=
  h.go s fun v F1 H1 g1 r1 => (h2.mono g1).go g1.sub fun w F2 H2 g2 r2 => ⟨v, w, rfl, k v w F2 H2 (g1.trans g2) (Rep.mono g2.fr r1) r2⟩
/-- for target in .., a word by the turn -/
theorem st_for {xs : List α} (s : Same F H) (hi : EvI wi σ F H xs) (W : Nat → L2.St → Hp → Hp → Prop) (h0 : ∀ F1 H1, Gr F H F1 H1 → W 0 σ F1 H1)
    (hs : ∀ (i : Nat) z, xs[i]? = some z → ∀ σ1 F1 H1, Same F1 H1 → W i σ1 F1 H1 → ∀ x F2 H2, Gr F1 H1 F2 H2 → rep F2 x z →
      g x σ1 H2 fun σ2 H3 => tb' { D with nx := fun σ' H' => ∃ F', Same F1 F' ∧ Same F' H' ∧ W (i + 1) σ' F' H', ct := fun σ' H' => ∃ F', Same F1 F' ∧ Same F' H' ∧ W (i + 1) σ' F' H', bk := D.nx } σ2 H3)
    (hd : ∀ σ1 F1 H1, Same F1 H1 → W xs.length σ1 F1 H1 → D.nx σ1 H1) : tFor wi g tb' D σ H := hi F H (Grow.refl s) _ fun J F0 H0 g0 wk => by
  refine ⟨fun i m σ' H' => m = xs.length - i ∧ i ≤ xs.length ∧ ∃ F', Same F0 F' ∧ Same F' H' ∧ W i σ' F' H', ⟨xs.length, by simp, Nat.zero_le _, F0, Same.refl _, g0.sub, h0 F0 H0 g0⟩, ?_⟩
  rintro i m σ' H' ⟨rfl, hl, F', s1, s2, w⟩
  by_cases hlt : i < xs.length
  · refine .inr ⟨wk.go F' H' s1 s2 i hlt, fun σ2 H2 => ∃ F2, Same F' F2 ∧ Same F2 H2 ∧ W (i + 1) σ2 F2 H2, fun σ2 H2 ⟨F2, a1, a2, a3⟩ => ⟨_, by omega, rfl, hlt, F2, s1.trans a1, a2, a3⟩, fun x H2 y => ?_⟩
    have gz := List.getElem?_eq_getElem hlt
    obtain ⟨F2, g2, rx⟩ := wk.yld F' H' s1 s2 i _ gz x H2 y
    exact hs i _ gz σ' F' H' s2 w x F2 H2 g2 rx
  · have e : i = xs.length := by omega
    subst e
    exact .inl ⟨wk.stop F' H' s1 s2, hd σ' F' H' s2 w⟩
/-- xs.append(e), xs alive -/
theorem ap_run {p : Addr} {us : List V} {a : α} {Q : VK} (s : Same F H) (hv : σ[i]? = some (some (.ref p))) (e : H p = some (.lst us)) (hl : us.length < sizeLine) (h : Ev ta σ F H a) (k : ∀ v F1 H1, Gr F H F1 H1 → rep F1 v a → Q .non (upd H1 p (.lst (us ++ [v])))) :
    tBM K "list" rAppend (tVar i) (tCons ta tNil) σ H Q := ⟨_, hv, .inl ⟨rfl, us, .inl (.inl e)⟩, h.go s fun v F1 H1 g r => ⟨p, us, v, rfl, rfl, g.at e, hl, k v F1 H1 g r⟩⟩
end
/-! ### promises of defs over data -/
section
variable {α β γ δ : Type} [Rep α] [Rep β] [Rep γ] [Rep δ] {σ : L2.St} {F H : Hp} {ta tb tc : TE}
def Sp1 (pre : α → Prop) (f : α → β) : Sp := fun vs H Q _ => ∃ F v a, vs = [v] ∧ Same F H ∧ rep F v a ∧ pre a ∧ ∀ r F' H', Gr F H F' H' → rep F' r (f a) → Q r H'
def Sp2 (pre : α → β → Prop) (f : α → β → γ) : Sp := fun vs H Q _ => ∃ F v w a b, vs = [v, w] ∧ Same F H ∧ rep F v a ∧ rep F w b ∧ pre a b ∧ ∀ r F' H', Gr F H F' H' → rep F' r (f a b) → Q r H'
def Sp3 (pre : α → β → γ → Prop) (f : α → β → γ → δ) : Sp := fun vs H Q _ => ∃ F v w z a b c, vs = [v, w, z] ∧ Same F H ∧ rep F v a ∧ rep F w b ∧ rep F z c ∧ pre a b c ∧ ∀ r F' H', Gr F H F' H' → rep F' r (f a b c) → Q r H'
theorem Sp1.len {pre : α → Prop} {f : α → β} (vs : List V) (H : Hp) (Q : VK) (E : XK) (h : Sp1 pre f vs H Q E) : vs.length = 1 := by obtain ⟨_, _, _, rfl, _⟩ := h; rfl
theorem Sp2.len {pre : α → β → Prop} {f : α → β → γ} (vs : List V) (H : Hp) (Q : VK) (E : XK) (h : Sp2 pre f vs H Q E) : vs.length = 2 := by obtain ⟨_, _, _, _, _, rfl, _⟩ := h; rfl
theorem Sp3.len {pre : α → β → γ → Prop} {f : α → β → γ → δ} (vs : List V) (H : Hp) (Q : VK) (E : XK) (h : Sp3 pre f vs H Q E) : vs.length = 3 := by obtain ⟨_, _, _, _, _, _, _, rfl, _⟩ := h; rfl
theorem ev_call1 {pre : α → Prop} {f : α → β} {E : XK} {a : α} (hp : pre a) (ha : Ev ta σ F H a) : Ev (tCall (Sp1 pre f) [] E (tCons ta tNil)) σ F H (f a) := fun F1 H1 g Q q => ha F1 H1 g _ fun v F2 H2 g2 rv =>
  ⟨F2, v, a, rfl, g2.sub, rv, hp, fun r F3 H3 g3 rr => q r F3 H3 (g2.trans g3) rr⟩
theorem ev_call2 {pre : α → β → Prop} {f : α → β → γ} {E : XK} {a : α} {b : β} (hp : pre a b) (ha : Ev ta σ F H a) (hb : Ev tb σ F H b) : Ev (tCall (Sp2 pre f) [] E (tCons ta (tCons tb tNil))) σ F H (f a b) := fun F1 H1 g Q q => ha F1 H1 g _ fun v F2 H2 g2 rv =>
  hb F2 H2 (g.trans g2) _ fun w F3 H3 g3 rw' => ⟨F3, v, w, a, b, rfl, g3.sub, Rep.mono g3.fr rv, rw', hp, fun r F4 H4 g4 rr => q r F4 H4 ((g2.trans g3).trans g4) rr⟩
theorem ev_call3 {pre : α → β → γ → Prop} {f : α → β → γ → δ} {E : XK} {a : α} {b : β} {c : γ} (hp : pre a b c) (ha : Ev ta σ F H a) (hb : Ev tb σ F H b) (hc : Ev tc σ F H c) : Ev (tCall (Sp3 pre f) [] E (tCons ta (tCons tb (tCons tc tNil)))) σ F H (f a b c) := fun F1 H1 g Q q => ha F1 H1 g _ fun v F2 H2 g2 rv =>
  hb F2 H2 (g.trans g2) _ fun w F3 H3 g3 rw' => hc F3 H3 ((g.trans g2).trans g3) _ fun z F4 H4 g4 rz => ⟨F4, v, w, z, a, b, c, rfl, g4.sub, Rep.mono (g3.fr.trans g4.fr) rv, Rep.mono g4.fr rw', rz, hp, fun r F5 H5 g5 rr => q r F5 H5 (((g2.trans g3).trans g4).trans g5) rr⟩
/-- one argument written, the second by default -/
theorem ev_call2d {pre : α → β → Prop} {f : α → β → γ} {E : XK} {a : α} {b : β} {d : V} (hd : ∀ F, rep F d b) (hp : pre a b) (ha : Ev ta σ F H a) : Ev (tCall (Sp2 pre f) [d] E (tCons ta tNil)) σ F H (f a b) := fun F1 H1 g Q q => ha F1 H1 g _ fun v F2 H2 g2 rv =>
  ⟨F2, v, d, a, b, rfl, g2.sub, rv, hd F2, hp, fun r F3 H3 g3 rr => q r F3 H3 (g2.trans g3) rr⟩
end
/-! ### a def that may be called -/
structure Cal (P : Program) (w : World) (K : PySem.W.Frag) (mg : Str → Option Value) (base : Heap) (k : Nat) (x : Str) (sp : Sp) (dvs : List V) : Prop where
  ex : ∃ (f : Addr) (fd : FuncData) (ps : List Str) (ds : List Value), FnOk P w K mg base CX0 k f fd ps sp ∧ mg x = some (.ref f) ∧ PySem.W.keepIn K (.ref f) = true ∧ Binds K fd ps ds ∧ Vals dvs ds
theorem pe_c {X : Cx} {k j : Nat} {x : Str} {sp : Sp} {dvs : List V} {p pos : Pos} {e : Expr} {es : List Expr} {t : TA} (c : Cal X.prog X.w X.K X.mg X.base k x sp dvs) (hr : Room j X.A) (hk : k ≤ j) (hg : Gl X x) (ha : PA X (e :: es) t)
    (hdb : (x == ("__debug__" : Str)) = false := by decide) (he : starEach (e :: es) X.env = (false, eval e X.env) :: starEach es X.env := by rfl) (hpl : (backTo pos (starEach es X.env)).any (·.1) = false := by rfl) :
    PE X (.Call (.Name x p) (e :: es) [] pos) (tCall sp dvs E0 t) := by
  obtain ⟨f, fd, ps, ds, F, hm, kp, b, d⟩ := c.ex
  exact pe_call F (hr.mono hk) hg hm kp b d pass0 ha hdb he hpl
end Ly
set_option maxHeartbeats 4000000
/-! Lw: defs by the head's facts -/
namespace Ly
open PySem PySem.Spec PyProof.Rows L2 SX
structure Std (K : PySem.W.Frag) (mg : Str → Option Value) (d : He.DefD) : Prop where
  fd : ∃ fd, FunD K d.name d.qual d.params d.body d.scope (d.dvs K) (d.kws K) (He.fAd K d.at_) fd
  mg : mg d.name = some (.ref (He.fAd K d.at_))
theorem std_of {fa : List He.Fa} {fn : List He.DefD} {K : PySem.W.Frag} {h : Heap} {mg : Str → Option Value} (X : K.In h) (G : h.Ns mainGlobals mg) (c : He.SaysD fa fn K) (i j : Nat) {d : He.DefD} (hi : fn[i]? = some d) (hj : fa[j]? = some (.glo d.name)) (hat : d.at_ = (d.name, none)) : Std K mg d := by
  refine ⟨c.def_ i hi, ?_⟩
  rw [hat]
  exact He.glo_ok X G (c.fact j hj)
section
variable {P : Program} {w : World} {K : PySem.W.Frag} {mg : Str → Option Value} {base : Heap} {d : He.DefD} {N ps : List Str} {k : Nat} {sp : Sp}
theorem cal_of (S : Std K mg d) (sc : FnScope N ps d.scope)
    (hb : ∀ (kV doc pm : Value) (an : Option Addr) (cdv ct : Value) (us : List Value), us.length = ps.length → bindArgs (PySem.W.fnOf d.name d.qual d.params d.body d.scope .none kV doc pm an cdv ct) ⟨us, []⟩ = pure (ps.zip us))
    (len : ∀ vs H Q E, sp vs H Q E → vs.length = ps.length)
    (hbody : ∀ (cdv : Value) (A : Around) (outer : List Env) (s : Shared) (H : Hp) (vs : List V) (Q : VK) (E : XK), Room k (A.deeper (envOfC d.qual d.scope s.heap.objs.size (He.fAd K d.at_) cdv)) → sp vs H Q E →
      ∃ t, PSs (cxOf CX0 P w K mg base N d.qual d.scope (He.fAd K d.at_) cdv A outer s H E) d.body t ∧ t { nx := fun _ H' => Q .non H', rt := Q } (start N vs) H)
    (h0 : d.dfl = [] := by rfl) (h1 : d.kwd = [] := by rfl) : Cal P w K mg base (k + 1) d.name sp [] := by
  obtain ⟨fd, F⟩ := S.fd
  have e0 : d.dvs K = [] := by unfold He.DefD.dvs; rw [h0]; rfl
  have e1 : d.kws K = [] := by unfold He.DefD.kws; rw [h1]; rfl
  have F2 := F
  rw [e0] at F2
  exact ⟨_, fd, ps, [], F.ok sc len hbody, S.mg, F.kp, F2.bindsN hb, .nil⟩
/-- a def with defaults: n positional values are written -/
theorem cal_ofd (S : Std K mg d) (sc : FnScope N ps d.scope) (n : Nat)
    (len : ∀ vs H Q E, sp vs H Q E → vs.length = ps.length)
    (hbody : ∀ (cdv : Value) (A : Around) (outer : List Env) (s : Shared) (H : Hp) (vs : List V) (Q : VK) (E : XK), Room k (A.deeper (envOfC d.qual d.scope s.heap.objs.size (He.fAd K d.at_) cdv)) → sp vs H Q E →
      ∃ t, PSs (cxOf CX0 P w K mg base N d.qual d.scope (He.fAd K d.at_) cdv A outer s H E) d.body t ∧ t { nx := fun _ H' => Q .non H', rt := Q } (start N vs) H)
    {j : Nat} (hn : n + (d.dfl.length - j) = ps.length) (hd : d.dfl ≠ [])
    (hb : ∀ (T : Addr) (kV doc pm : Value) (an : Option Addr) (cdv ct : Value) (us its : List Value), us.length = n → its.length = d.dfl.length →
      ∃ k, bindArgs (PySem.W.fnOf d.name d.qual d.params d.body d.scope (.ref T) kV doc pm an cdv ct) ⟨us, []⟩ = seqItems? (.ref T) >>= k ∧ k (some its.toArray) = pure (ps.zip (us ++ its.drop j)))
    : Cal P w K mg base (k + 1) d.name sp ((d.dvs K).drop j) := by
  obtain ⟨fd, F⟩ := S.fd
  have l : (d.dvs K).length = d.dfl.length := by unfold He.DefD.dvs; rw [List.length_map]
  obtain ⟨ds, hv, bd⟩ := F.binds1 n j (fun e => hd (by
    have z := congrArg List.length e
    rw [l] at z
    exact List.length_eq_zero_iff.mp z)) (by rw [l]; exact hn) (fun T kV doc pm an cdv ct us its h1 h2 => hb T kV doc pm an cdv ct us its h1 (by rw [← l]; exact h2))
  exact ⟨_, fd, ps, ds, F.ok sc len hbody, S.mg, F.kp, bd, hv⟩
/-- all parameters are written, though some have defaults -/
theorem cal_ofa (S : Std K mg d) (sc : FnScope N ps d.scope)
    (len : ∀ vs H Q E, sp vs H Q E → vs.length = ps.length)
    (hbody : ∀ (cdv : Value) (A : Around) (outer : List Env) (s : Shared) (H : Hp) (vs : List V) (Q : VK) (E : XK), Room k (A.deeper (envOfC d.qual d.scope s.heap.objs.size (He.fAd K d.at_) cdv)) → sp vs H Q E →
      ∃ t, PSs (cxOf CX0 P w K mg base N d.qual d.scope (He.fAd K d.at_) cdv A outer s H E) d.body t ∧ t { nx := fun _ H' => Q .non H', rt := Q } (start N vs) H)
    (hb : ∀ (T : Addr) (kV doc pm : Value) (an : Option Addr) (cdv ct : Value) (us : List Value), us.length = ps.length →
      bindArgs (PySem.W.fnOf d.name d.qual d.params d.body d.scope (.ref T) kV doc pm an cdv ct) ⟨us, []⟩ = pure (ps.zip us)) (hd : d.dfl ≠ []) : Cal P w K mg base (k + 1) d.name sp [] := by
  obtain ⟨fd, F⟩ := S.fd
  refine ⟨_, fd, ps, [], F.ok sc len hbody, S.mg, F.kp, ?_, .nil⟩
  obtain ⟨oc, od, dV, kV, doc, pm, an, cdv, ct, osl, rfl, lk, hcd, hD, hK⟩ := F.ex
  rcases hD with ⟨e, _⟩ | ⟨_, T, o, its, m, rfl, _, _, _⟩
  · refine absurd ?_ hd
    have z := congrArg List.length e
    unfold He.DefD.dvs at z
    rw [List.length_map] at z
    exact List.length_eq_zero_iff.mp z
  · exact .all fun us hl => hb T kV doc pm an cdv ct us hl
end
end Ly
namespace Ly
open PySem PySem.Spec PyProof.Rows L2 SX
open Rep
/-! ### types of data -/
class TyRep (α : Type) [Rep α] where
  ty : String
  is : ∀ {K : PySem.W.Frag} {F H : Hp} {v : V} {a : α}, Same F H → rep F v a → TyX K H v (.type ty)
instance : TyRep Int := ⟨"int", fun _ r => by cases r; exact .base (.int _)⟩
instance : TyRep Bool := ⟨"bool", fun _ r => by cases r; exact .base (.bl _)⟩
instance : TyRep Str := ⟨"str", fun _ r => by cases r; exact .base (.str _)⟩
instance {α : Type} [Rep α] : TyRep (List α) := ⟨"list", fun s r => by obtain ⟨_, _, rfl, e, _⟩ := r; exact .base (.lst (s _ _ e))⟩
instance {α β : Type} [Rep α] [Rep β] : TyRep (α × β) := ⟨"tuple", fun s r => by obtain ⟨_, _, _, rfl, e, _⟩ := r; exact .base (.tup (s _ _ e))⟩
instance {κ α : Type} [KeyT κ] [Rep α] : TyRep (Dct κ α) := ⟨"dict", fun s r => by obtain ⟨_, _, rfl, e, _⟩ := r; exact .base (.dK (s _ _ e))⟩
theorem ev_isi {α : Type} [Rep α] [TyRep α] {K : PySem.W.Frag} {σ : L2.St} {F H : Hp} {ta : TE} {a : α} {c : String} {b : Bool} (h : kitB (TyRep.ty α) c = some b) (ha : Ev ta σ F H a) : Ev (tCB (rIsi K) (tCons ta (tCons (tC (.ty c)) tNil))) σ F H b := fun F1 H1 g Q q =>
  ha F1 H1 g _ fun v F2 H2 g2 r => ⟨v, .ty c, _, _, b, rfl, .ty c, TyRep.is g2.sub r, kit_ty h, q _ F2 H2 g2 rfl⟩
/-- the context of a reading's start -/
theorem same_of {F H F' H' : Hp} (g : Gr F H F' H') : Same F' H' := g.sub
end Ly
set_option maxHeartbeats 4000000
/-! Lv: dicts that are alive or not, sorted lists, while loops -/
namespace Ly
open PySem PySem.Spec PyProof.Rows L2 SX
open Rep
/-! ### dicts as lists of pairs -/
section
variable {κ α : Type} [DecidableEq κ]
def look (ds : List (κ × α)) (k : κ) : Option α := (ds.find? fun p => decide (p.1 = k)).map (·.2)
def putD (ds : List (κ × α)) (k : κ) (a : α) : List (κ × α) := if (ds.any fun p => decide (p.1 = k)) = true then ds.map (fun p => if p.1 = k then (p.1, a) else p) else ds ++ [(k, a)]
theorem look_nil {k : κ} : look ([] : List (κ × α)) k = none := rfl
theorem look_pos {p : κ × α} {r : List (κ × α)} {k : κ} (e : p.1 = k) : look (p :: r) k = some p.2 := by simp [look, List.find?_cons, e]
theorem look_neg {p : κ × α} {r : List (κ × α)} {k : κ} (e : ¬ p.1 = k) : look (p :: r) k = look r k := by simp [look, List.find?_cons, e]
theorem look_any (k : κ) : ∀ ds : List (κ × α), (ds.any fun p => decide (p.1 = k)) = (look ds k).isSome
  | [] => rfl
  | p :: r => by
    by_cases e : p.1 = k
    · rw [look_pos e, List.any_cons, decide_eq_true e]
      rfl
    · rw [look_neg e, List.any_cons, decide_eq_false e, look_any k r]
      rfl
theorem look_some_mem {k : κ} : ∀ {ds : List (κ × α)}, (look ds k).isSome = true ↔ k ∈ ds.map (·.1)
  | [] => by simp [look]
  | p :: r => by
    by_cases e : p.1 = k
    · rw [look_pos e, List.map_cons]
      simp [e]
    · rw [look_neg e, look_some_mem (ds := r), List.map_cons, List.mem_cons]
      constructor
      · exact .inr
      · rintro (h | h)
        · exact absurd h.symm e
        · exact h
theorem look_mem {k : κ} {a : α} : ∀ {ds : List (κ × α)}, look ds k = some a → (k, a) ∈ ds
  | [], h => by cases h
  | p :: r, h => by
    by_cases e : p.1 = k
    · rw [look_pos e] at h
      cases h
      subst e
      exact List.mem_cons_self ..
    · rw [look_neg e] at h
      exact List.mem_cons_of_mem _ (look_mem h)
theorem look_snoc (k k' : κ) (a : α) : ∀ ds : List (κ × α), look (ds ++ [(k, a)]) k' = (look ds k').or (if k = k' then some a else none)
  | [] => by
    show look [(k, a)] k' = _
    by_cases e : k = k'
    · rw [look_pos (p := (k, a)) e, if_pos e]; rfl
    · rw [look_neg (p := (k, a)) e, if_neg e]; rfl
  | p :: r => by
    by_cases e : p.1 = k'
    · rw [List.cons_append, look_pos e, look_pos e]; rfl
    · rw [List.cons_append, look_neg e, look_neg e, look_snoc k k' a r]
theorem look_change (k k' : κ) (a : α) : ∀ ds : List (κ × α), look (ds.map (fun p => if p.1 = k then (p.1, a) else p)) k' = if k = k' then (look ds k').map (fun _ => a) else look ds k'
  | [] => by simp [look]
  | p :: r => by
    rw [List.map_cons]
    by_cases e : p.1 = k'
    · by_cases e2 : k = k'
      · rw [if_pos (e.trans e2.symm), look_pos (p := (p.1, a)) e, if_pos e2, look_pos e]
        rfl
      · rw [if_neg (fun z => e2 (z.symm.trans e)), look_pos e, if_neg e2, look_pos e]
    · have e3 : ¬ (if p.1 = k then (p.1, a) else p).1 = k' := by split <;> exact e
      rw [look_neg e3, look_change k k' a r, look_neg e]
theorem look_put (ds : List (κ × α)) (k k' : κ) (a : α) : look (putD ds k a) k' = if k = k' then some a else look ds k' := by
  unfold putD
  rw [look_any]
  by_cases h : (look ds k).isSome = true
  · rw [if_pos h, look_change]
    by_cases e : k = k'
    · rw [if_pos e, if_pos e]
      subst e
      cases z : look ds k with
      | none => rw [z] at h; cases h
      | some b => rfl
    · rw [if_neg e, if_neg e]
  · rw [if_neg h, look_snoc]
    have h0 : look ds k = none := by
      cases z : look ds k with
      | none => rfl
      | some b => rw [z] at h; exact absurd rfl h
    by_cases e : k = k'
    · rw [if_pos e, if_pos e]
      subst e
      rw [h0]
      rfl
    · rw [if_neg e, if_neg e]
      cases look ds k' <;> rfl
theorem put_len (ds : List (κ × α)) (k : κ) (a : α) : (putD ds k a).length ≤ ds.length + 1 := by
  unfold putD
  split <;> simp
theorem put_keys (ds : List (κ × α)) (k : κ) (a : α) (h : (ds.map (·.1)).Nodup) : ((putD ds k a).map (·.1)).Nodup := by
  unfold putD
  rw [look_any]
  split
  · have e : (ds.map (fun p => if p.1 = k then (p.1, a) else p)).map (·.1) = ds.map (·.1) := by
      rw [List.map_map]
      refine List.map_congr_left fun p _ => ?_
      show (if p.1 = k then (p.1, a) else p).1 = p.1
      split <;> rfl
    rw [e]
    exact h
  · rename_i z
    rw [List.map_append, List.nodup_append]
    refine ⟨h, by simp, fun x hx y hy e => ?_⟩
    have hy : y = k := by simpa using hy
    subst e
    rw [hy] at hx
    exact z (look_some_mem.mpr hx)
end
section
variable {κ α : Type} [DecidableEq κ] [KeyT κ] [Rep α] {F H F' H' : Hp}
theorem key_ne {a b : κ} (h : ¬ a = b) : ¬ KeyT.key a = KeyT.key b := fun e => h (KeyT.inj e)
theorem drel_none {k : κ} : ∀ {kvs : List (Key × V)} {ds : List (κ × α)}, Paired (DRel F) kvs ds → look ds k = none → valV kvs (KeyT.key k) = none
  | _, _, .nil, _ => rfl
  | _, _, .cons (a := p) (b := q) h t, e => by
    by_cases z : q.1 = k
    · rw [look_pos z] at e
      cases e
    · rw [look_neg z] at e
      rw [valV_neg (by rw [h.1]; exact key_ne z)]
      exact drel_none t e
theorem drel_some {k : κ} {a : α} : ∀ {kvs : List (Key × V)} {ds : List (κ × α)}, Paired (DRel F) kvs ds → look ds k = some a → ∃ v, valV kvs (KeyT.key k) = some v ∧ rep F v a
  | _, _, .nil, e => by cases e
  | _, _, .cons (a := p) (b := q) h t, e => by
    by_cases z : q.1 = k
    · rw [look_pos z] at e
      cases e
      exact ⟨p.2, valV_pos (by rw [h.1, z]), h.2⟩
    · rw [look_neg z] at e
      rw [valV_neg (by rw [h.1]; exact key_ne z)]
      exact drel_some t e
theorem drel_is {k : κ} {kvs : List (Key × V)} {ds : List (κ × α)} (h : Paired (DRel F) kvs ds) : (valV kvs (KeyT.key k)).isSome = (look ds k).isSome := by
  cases e : look ds k with
  | none => rw [drel_none h e]; rfl
  | some a =>
    obtain ⟨v, e2, _⟩ := drel_some h e
    rw [e2]
    rfl
theorem drel_put {k : κ} {v : V} {a : α} {kvs : List (Key × V)} {ds : List (κ × α)} (h : Paired (DRel F) kvs ds) (r : rep F v a) : Paired (DRel F) (putK kvs (KeyT.key k) v) (putD ds k a) := by
  unfold putK putD
  rw [valV_any, drel_is h, look_any]
  split
  · induction h with
    | nil => exact .nil
    | cons q t ih =>
      rename_i x y xs ys z
      rw [List.map_cons, List.map_cons]
      have tl : Paired (DRel F) (xs.map fun kv => if kv.1 = KeyT.key k then (kv.1, v) else kv) (ys.map fun p => if p.1 = k then (p.1, a) else p) := by
        clear ih z
        induction t with
        | nil => exact .nil
        | cons q2 t2 ih2 =>
          rename_i x2 y2 xs2 ys2
          rw [List.map_cons, List.map_cons]
          refine .cons ?_ ih2
          by_cases e : y2.1 = k
          · rw [if_pos e, if_pos (by rw [q2.1, e])]
            exact ⟨q2.1, r⟩
          · rw [if_neg e, if_neg (by rw [q2.1]; exact key_ne e)]
            exact q2
      refine .cons ?_ tl
      by_cases e : y.1 = k
      · rw [if_pos e, if_pos (by rw [q.1, e])]
        exact ⟨q.1, r⟩
      · rw [if_neg e, if_neg (by rw [q.1]; exact key_ne e)]
        exact q
  · exact paired_app h (.cons ⟨rfl, r⟩ .nil)
theorem drel_mono {kvs : List (Key × V)} {ds : List (κ × α)} (s : Same F F') (h : Paired (DRel F) kvs ds) : Paired (DRel F') kvs ds := L2.Paired.mapP h fun _ _ z => ⟨z.1, Rep.mono s z.2⟩
end
/-! ### a known value, read -/
def EvV (te : TE) (σ : L2.St) (F H : Hp) (v : V) : Prop := ∀ F1 H1, Gr F H F1 H1 → ∀ Q : VK, (∀ F2 H2, Gr F1 H1 F2 H2 → Q v H2) → te σ H1 Q
theorem evv {i : Nat} {v : V} {σ : L2.St} {F H : Hp} (h : σ[i]? = some (some v)) : EvV (tVar i) σ F H v := fun F1 H1 g Q q => ⟨v, h, q F1 H1 (Grow.refl g.sub)⟩
section
variable {κ α β : Type} [DecidableEq κ] [KeyT κ] [Rep κ] [KeyRep κ] [Rep α] [Rep β] {K : PySem.W.Frag} {σ : L2.St} {F H : Hp} {td ty tx : TE} {p : Addr} {kvs : List (Key × V)} {ds : List (κ × α)} {k : κ} {a : α}
/-- what stands at p, in every growth -/
theorem rd_gr {F1 H1 : Hp} {u : HO} (g : Gr F H F1 H1) (e : Rd H p u) : Rd H1 p u := by
  rcases e with e | ⟨o, e⟩
  · exact .inl (Gr.at g e)
  · exact .inr ⟨o, Gr.at g e⟩
theorem ev_dget (ht : EvV td σ F H (.ref p)) (e : Rd H p (.dK kvs)) (hp : Paired (DRel F) kvs ds) (hl : look ds k = some a) (hk : Ev ty σ F H k) : Ev (tDGet td ty) σ F H a := fun F1 H1 g Q q =>
  ht F1 H1 g _ fun F2 H2 g2 => hk F2 H2 (g.trans g2) _ fun v F3 H3 g3 rv => by
    obtain ⟨w, e2, rw'⟩ := drel_some (k := k) hp hl
    have gg := (g.trans g2).trans g3
    exact ⟨p, w, rfl, .inl ⟨kvs, KeyT.key k, rd_gr gg e, KeyRep.kv rv, e2.symm⟩, q w F3 H3 (g2.trans g3) (Rep.mono gg.fr rw')⟩
theorem ev_din (ht : EvV td σ F H (.ref p)) (e : Rd H p (.dK kvs)) (hp : Paired (DRel F) kvs ds) (hk : Ev ty σ F H k) : Ev (tDIn ty td) σ F H (look ds k).isSome := fun F1 H1 g Q q =>
  hk F1 H1 g _ fun v F2 H2 g2 rv => ht F2 H2 (g.trans g2) _ fun F3 H3 g3 =>
    ⟨p, valV kvs (KeyT.key k), rfl, .inl ⟨kvs, KeyT.key k, rd_gr ((g.trans g2).trans g3) e, KeyRep.kv rv, rfl⟩, q _ F3 H3 (g2.trans g3) (congrArg V.bl (drel_is hp))⟩
theorem ev_dnotin (ht : EvV td σ F H (.ref p)) (e : Rd H p (.dK kvs)) (hp : Paired (DRel F) kvs ds) (hk : Ev ty σ F H k) : Ev (tDNotIn ty td) σ F H (!(look ds k).isSome) := fun F1 H1 g Q q =>
  hk F1 H1 g _ fun v F2 H2 g2 rv => ht F2 H2 (g.trans g2) _ fun F3 H3 g3 =>
    ⟨p, valV kvs (KeyT.key k), rfl, .inl ⟨kvs, KeyT.key k, rd_gr ((g.trans g2).trans g3) e, KeyRep.kv rv, rfl⟩, q _ F3 H3 (g2.trans g3) (congrArg (fun b => V.bl (!b)) (drel_is hp))⟩
theorem isd_of (e : Rd H p (.dK kvs)) : L2.IsD H p := .inl ⟨kvs, e⟩
theorem ev_dget1 (ht : EvV td σ F H (.ref p)) (e : Rd H p (.dK kvs)) (hp : Paired (DRel F) kvs ds) (hk : Ev ty σ F H k) : Ev (tDGet1 td ty) σ F H (look ds k) := fun F1 H1 g Q q =>
  ht F1 H1 g _ fun F2 H2 g2 => ⟨p, rfl, isd_of (rd_gr (g.trans g2) e), hk F2 H2 (g.trans g2) _ fun v F3 H3 g3 rv => by
    have gg := (g.trans g2).trans g3
    refine ⟨valV kvs (KeyT.key k), .inl ⟨kvs, KeyT.key k, rd_gr gg e, KeyRep.kv rv, rfl⟩, q _ F3 H3 (g2.trans g3) ?_⟩
    cases el : look ds k with
    | none =>
      rw [drel_none hp el]
      rfl
    | some a =>
      obtain ⟨w, e2, rw'⟩ := drel_some hp el
      rw [e2]
      exact (Rep.mono gg.fr rw' : rep F3 w a)⟩
theorem ev_dget2 (ht : EvV td σ F H (.ref p)) (e : Rd H p (.dK kvs)) (hp : Paired (DRel F) kvs ds) (hk : Ev ty σ F H k) (hx : Ev tx σ F H a) : Ev (tDGet2 td ty tx) σ F H ((look ds k).getD a) := fun F1 H1 g Q q =>
  ht F1 H1 g _ fun F2 H2 g2 => ⟨p, rfl, isd_of (rd_gr (g.trans g2) e), hk F2 H2 (g.trans g2) _ fun v F3 H3 g3 rv => hx F3 H3 ((g.trans g2).trans g3) _ fun z F4 H4 g4 rz => by
    have gg := ((g.trans g2).trans g3).trans g4
    refine ⟨valV kvs (KeyT.key k), .inl ⟨kvs, KeyT.key k, rd_gr gg e, KeyRep.kv rv, rfl⟩, q _ F4 H4 ((g2.trans g3).trans g4) ?_⟩
    cases el : look ds k with
    | none =>
      rw [drel_none hp el]
      exact rz
    | some b =>
      obtain ⟨w, e2, rw'⟩ := drel_some hp el
      rw [e2]
      exact (Rep.mono gg.fr rw' : rep F4 w b)⟩
end
section
variable {κ α β : Type} [DecidableEq κ] [KeyT κ] [Rep κ] [KeyRep κ] [Rep α] [Rep β] {K : PySem.W.Frag} {σ : L2.St} {F H : Hp} {td ty tx te : TE} {p : Addr} {kvs : List (Key × V)} {ds : List (κ × α)} {k : κ} {a : α} {D : Ends}
/-- d[k] = x -/
theorem st_dput (s : Same F H) (ht : EvV td σ F H (.ref p)) (e : H p = some (.dK kvs)) (hp : Paired (DRel F) kvs ds) (hz : ds.length < sizeLine) (hk : Ev ty σ F H k) (hx : Ev tx σ F H a)
    (q : ∀ kvs' F1 H1, Gr F H F1 H1 → H1 p = some (.dK kvs) → Paired (DRel F1) kvs' (putD ds k a) → D.nx σ (upd H1 p (.dK kvs'))) : sDPut td ty tx D σ H := hx.go s fun v F1 H1 g1 rv =>
  ht F1 H1 g1 _ fun F2 H2 g2 => hk F2 H2 (g1.trans g2) _ fun y F3 H3 g3 ry => by
    have gg := (g1.trans g2).trans g3
    have e3 := Gr.at gg e
    refine ⟨p, _, rfl, .inl ⟨kvs, KeyT.key k, e3, KeyRep.kv ry, by rw [paired_len hp]; exact hz, rfl⟩, ?_⟩
    exact q _ F3 H3 gg e3 (drel_put (drel_mono gg.fr hp) (Rep.mono (g2.fr.trans g3.fr) rv))
/-- sorted(d) of ints -/
theorem ev_sortDI {ks zs : List Int} (ht : EvV td σ F H (.ref p)) (e : Rd H p (.dK kvs)) (hk : kvs.map (·.1) = ks.map Sum.inl) (hs : ∀ ys : List Int, ys.Perm ks → ys.Pairwise (· ≤ ·) → ys = zs) : Ev (tCB rSortDI (tCons td tNil)) σ F H zs := fun F1 H1 g Q q =>
  ht F1 H1 g _ fun F2 H2 g2 => ⟨p, kvs, ks, rfl, rd_gr (g.trans g2) e, hk, fun ys b h1 h2 n => by
    rw [hs ys h1 h2]
    exact q _ _ _ (g2.trans (Grow.ice g2.sub n)) (rep_lst upd_same (ints_paired _))⟩
theorem ev_sortDS {ks : List Str} {zs : List Str} (ht : EvV td σ F H (.ref p)) (e : Rd H p (.dK kvs)) (hk : kvs.map (·.1) = ks.map Sum.inr) (hs : ∀ ys : List Str, ys.Perm ks → sortedS ys = true → ys = zs) : Ev (tCB rSortDS (tCons td tNil)) σ F H zs := fun F1 H1 g Q q =>
  ht F1 H1 g _ fun F2 H2 g2 => ⟨p, kvs, ks, rfl, rd_gr (g.trans g2) e, hk, fun ys b h1 h2 n => by
    rw [hs ys h1 h2]
    exact q _ _ _ (g2.trans (Grow.ice g2.sub n)) (rep_lst upd_same (strs_paired _))⟩
/-- while c: .. -/
theorem st_while {c : TT} {tb : TS} (W : Nat → L2.St → Hp → Hp → Prop) (m0 : Nat) (s : Same F H) (w0 : W m0 σ F H)
    (step : ∀ m σ F1 H1, Same F1 H1 → W m σ F1 H1 → ∃ b, EvT c σ F1 H1 b ∧ ∀ F2 H2, Gr F1 H1 F2 H2 → if b = true then tb { D with nx := fun σ' H' => ∃ m' F', m' < m ∧ Same F' H' ∧ W m' σ' F' H', ct := fun σ' H' => ∃ m' F', m' < m ∧ Same F' H' ∧ W m' σ' F' H', bk := D.nx } σ H2 else D.nx σ H2) :
    tWhile c tb D σ H := ⟨fun m σ' H' => ∃ F', Same F' H' ∧ W m σ' F' H', ⟨m0, F, s, w0⟩, fun m σ' H' ⟨F', s', w⟩ => by
  obtain ⟨b, hb, k⟩ := step m σ' F' H' s' w
  refine hb.go s' fun F2 H2 g2 => ?_
  have k2 := k F2 H2 g2
  cases b with
  | true => exact ⟨fun σ'' H'' => ∃ m' F', m' < m ∧ Same F' H'' ∧ W m' σ'' F' H'', fun σ'' H'' ⟨m', F'', h1, h2, h3⟩ => ⟨m', h1, F'', h2, h3⟩, k2⟩
  | false => exact k2⟩
end
/-! ### sorted lists -/
theorem nd_len {α : Type} [DecidableEq α] : ∀ {ks l : List α}, ks.Nodup → (∀ x ∈ ks, x ∈ l) → ks.length ≤ l.length
  | [], _, _, _ => Nat.zero_le _
  | k :: r, l, nd, h => by
    rw [List.nodup_cons] at nd
    have hk := h k (List.mem_cons_self ..)
    have ih := nd_len (l := l.erase k) nd.2 fun x hx => by
      have ne : x ≠ k := fun e => nd.1 (e ▸ hx)
      exact (List.mem_erase_of_ne ne).mpr (h x (List.mem_cons_of_mem _ hx))
    rw [List.length_erase_of_mem hk] at ih
    have := List.length_pos_of_mem hk
    rw [List.length_cons]
    omega
theorem sorted_ext : ∀ {xs ys : List Int}, xs.Pairwise (· < ·) → ys.Pairwise (· < ·) → (∀ z, z ∈ xs ↔ z ∈ ys) → xs = ys
  | [], [], _, _, _ => rfl
  | [], y :: ys, _, _, h => absurd ((h y).mpr (List.mem_cons_self ..)) (by simp)
  | x :: xs, [], _, _, h => absurd ((h x).mp (List.mem_cons_self ..)) (by simp)
  | x :: xs, y :: ys, hx, hy, h => by
    rw [List.pairwise_cons] at hx hy
    have e : x = y := by
      rcases List.mem_cons.mp ((h x).mp (List.mem_cons_self ..)) with e | e
      · exact e
      · rcases List.mem_cons.mp ((h y).mpr (List.mem_cons_self ..)) with e2 | e2
        · exact e2.symm
        · have a := hy.1 x e
          have b := hx.1 y e2
          omega
    subst e
    congr 1
    refine sorted_ext hx.2 hy.2 fun z => ⟨fun hz => ?_, fun hz => ?_⟩
    · rcases List.mem_cons.mp ((h z).mp (List.mem_cons_of_mem _ hz)) with e | e
      · have := hx.1 z hz
        omega
      · exact e
    · rcases List.mem_cons.mp ((h z).mpr (List.mem_cons_of_mem _ hz)) with e | e
      · have := hy.1 z hz
        omega
      · exact e
theorem sorted_lt {ys : List Int} (h : ys.Pairwise (· ≤ ·)) (nd : ys.Nodup) : ys.Pairwise (· < ·) := by
  have := h.and nd
  exact this.imp fun {a b} ⟨h1, h2⟩ => by omega
theorem sorted_is {ks zs : List Int} (nd : ks.Nodup) (hz : zs.Pairwise (· < ·)) (h : ∀ z, z ∈ ks ↔ z ∈ zs) (ys : List Int) (h1 : ys.Perm ks) (h2 : ys.Pairwise (· ≤ ·)) : ys = zs :=
  sorted_ext (sorted_lt h2 (h1.nodup_iff.mpr nd)) hz fun z => h1.mem_iff.trans (h z)
/-! ### sets as dicts -/
def tr (k : Int) : Key × V := (Sum.inl k, .bl true)
def addK (ks : List Int) (m : Int) : List Int := if m ∈ ks then ks else ks ++ [m]
theorem tr_val {k : Int} : ∀ (ks : List Int), valV (ks.map tr) (Sum.inl k) = if k ∈ ks then some (.bl true) else none
  | [] => rfl
  | m :: r => by
    by_cases e : m = k
    · rw [List.map_cons, valV_pos (by rw [← e]; rfl), if_pos (by rw [e]; exact List.mem_cons_self ..)]
      rfl
    · rw [List.map_cons, valV_neg (fun z => e (Sum.inl.inj z)), tr_val r]
      have : k ∈ m :: r ↔ k ∈ r := by
        rw [List.mem_cons]
        exact ⟨fun z => z.resolve_left fun z => e z.symm, .inr⟩
      simp only [this]
theorem tr_put (ks : List Int) (m : Int) : putK (ks.map tr) (Sum.inl m) (.bl true) = (addK ks m).map tr := by
  unfold putK addK
  rw [valV_any, tr_val]
  by_cases h : m ∈ ks
  · rw [if_pos h, if_pos (show (some (V.bl true)).isSome = true from rfl), if_pos h]
    rw [List.map_map]
    refine List.map_congr_left fun k _ => ?_
    show (if (tr k).1 = Sum.inl m then ((tr k).1, V.bl true) else tr k) = tr k
    split <;> rfl
  · rw [if_neg h, if_neg (show ¬ (none : Option V).isSome = true by simp), if_neg h, List.map_append]
    rfl
theorem tr_merge : ∀ (ms ks : List Int), mergeK (ks.map tr) (ms.map tr) = (ms.foldl addK ks).map tr
  | [], _ => rfl
  | m :: r, ks => by
    show mergeK (putK (ks.map tr) (Sum.inl m) (.bl true)) (r.map tr) = _
    rw [tr_put, tr_merge r]
    rfl
theorem add_mem {z : Int} : ∀ (ms ks : List Int), z ∈ ms.foldl addK ks ↔ z ∈ ks ∨ z ∈ ms
  | [], ks => by simp
  | m :: r, ks => by
    show z ∈ r.foldl addK (addK ks m) ↔ _
    rw [add_mem r]
    unfold addK
    split
    · rename_i h
      constructor
      · rintro (a | a)
        · exact .inl a
        · exact .inr (List.mem_cons_of_mem _ a)
      · rintro (a | a)
        · exact .inl a
        · rcases List.mem_cons.mp a with e | a
          · exact .inl (e ▸ h)
          · exact .inr a
    · rw [List.mem_append, List.mem_singleton, List.mem_cons]
      constructor
      · rintro ((a | a) | a)
        · exact .inl a
        · exact .inr (.inl a)
        · exact .inr (.inr a)
      · rintro (a | a | a)
        · exact .inl (.inl a)
        · exact .inl (.inr a)
        · exact .inr a
theorem add_nd : ∀ (ms : List Int) {ks : List Int}, ks.Nodup → (ms.foldl addK ks).Nodup
  | [], _, h => h
  | m :: r, ks, h => add_nd r (by
    unfold addK
    split
    · exact h
    · rename_i z
      rw [List.nodup_append]
      exact ⟨h, by simp, fun x hx y hy e => z (by
        have hy : y = m := by simpa using hy
        rw [← hy, ← e]
        exact hx)⟩)
end Ly
set_option maxHeartbeats 4000000
/-! Lu: texts in order; pairs; slices -/
namespace Ly
open PySem PySem.Spec PyProof.Rows L2 SX
open Rep
def leS (a b : Str) : Bool := !decide (b.cps.toList < a.cps.toList)
theorem leS_iff {a b : Str} : leS a b = true ↔ a.cps.toList ≤ b.cps.toList := by
  unfold leS
  rw [Bool.not_eq_true', decide_eq_false_iff_not, List.not_lt]
theorem leS_trans (a b c : Str) (h : leS a b = true) (h2 : leS b c = true) : leS a c = true := leS_iff.mpr (List.le_trans (leS_iff.mp h) (leS_iff.mp h2))
theorem leS_total (a b : Str) : (leS a b || leS b a) = true := by
  rw [Bool.or_eq_true, leS_iff, leS_iff]
  exact List.le_total _ _
theorem str_ext {a b : Str} (h : a.cps.toList = b.cps.toList) : a = b := by rw [← S_tl a, ← S_tl b, h]
theorem leS_anti {a b : Str} (h : leS a b = true) (h2 : leS b a = true) : a = b := str_ext (List.le_antisymm (leS_iff.mp h) (leS_iff.mp h2))
theorem rising_pw : ∀ {l : List Str} {p : Str}, risingS p l = true → (p :: l).Pairwise fun a b => leS a b = true
  | [], p, _ => by simp
  | x :: r, p, h => by
    have h : (!ltCps x.cps.toList p.cps.toList && risingS x r) = true := h
    rw [Bool.and_eq_true] at h
    have ih := rising_pw h.2
    have px : leS p x = true := by
      unfold leS
      rw [PyProof.Rows.ltCps_eq] at h
      exact h.1
    rw [List.pairwise_cons]
    refine ⟨fun y hy => ?_, ih⟩
    rcases List.mem_cons.mp hy with e | hy
    · rw [e]; exact px
    · exact leS_trans _ _ _ px ((List.pairwise_cons.mp ih).1 y hy)
theorem sorted_pw {l : List Str} (h : sortedS l = true) : l.Pairwise fun a b => leS a b = true := by
  cases l with
  | nil => exact .nil
  | cons x r => exact rising_pw h
/-- the texts in order -/
def sortW (ks : List Str) : List Str := ks.mergeSort leS
theorem sortW_perm (ks : List Str) : (sortW ks).Perm ks := List.mergeSort_perm ks leS
theorem sortW_pw (ks : List Str) : (sortW ks).Pairwise fun a b => leS a b = true := List.pairwise_mergeSort leS_trans leS_total ks
theorem sortW_is {ks ys : List Str} (h : ys.Perm ks) (h2 : sortedS ys = true) : ys = sortW ks :=
  List.Perm.eq_of_pairwise (fun a b _ _ h1 h2 => leS_anti h1 h2) (sorted_pw h2) (sortW_pw ks) (h.trans (sortW_perm ks).symm)
theorem sortW_mem {ks : List Str} {z : Str} : z ∈ sortW ks ↔ z ∈ ks := (sortW_perm ks).mem_iff
theorem sortW_len (ks : List Str) : (sortW ks).length = ks.length := (sortW_perm ks).length_eq
theorem cut_tail {α : Type} (xs : List α) : cutL xs (some 1) none = xs.drop 1 := by
  unfold cutL
  have e1 : HT.sIx xs.length 0 (some 1) = min 1 xs.length := HT.sIx_nat _ _ 1
  have e2 : HT.sIx xs.length xs.length none = xs.length := rfl
  rw [e1, e2]
  cases xs with
  | nil => rfl
  | cons x r =>
    have : min 1 (x :: r).length = 1 := by simp
    rw [this]
    show List.take ((x :: r).length - 1) r = r
    rw [List.take_of_length_le (by simp)]
theorem cut_to {α : Type} (xs : List α) (n : Nat) : cutL xs none (some (n : Int)) = xs.take n := by
  unfold cutL
  have e1 : HT.sIx xs.length xs.length (some (n : Int)) = min n xs.length := HT.sIx_nat _ _ n
  have e2 : HT.sIx xs.length 0 none = 0 := rfl
  rw [e1, e2, List.drop_zero, Nat.sub_zero]
  by_cases h : n ≤ xs.length
  · rw [Nat.min_eq_left h]
  · rw [Nat.min_eq_right (by omega), List.take_of_length_le (Nat.le_refl _), List.take_of_length_le (by omega)]
theorem cutS_S (x : Str) (lo hi : Option Int) : cutS x lo hi = S (cutL x.cps.toList lo hi) := by
  unfold cutS cutL S
  rw [show x.cps.toList.length = x.length from Array.length_toList]
theorem cut_but {α : Type} {xs : List α} (h : xs ≠ []) : cutL xs none (some (-1)) = xs.take (xs.length - 1) := by
  have hl := List.length_pos_iff.mpr h
  unfold cutL
  have e1 : HT.sIx xs.length xs.length (some (-1)) = xs.length - 1 := by
    unfold HT.sIx
    simp
    omega
  have e2 : HT.sIx xs.length 0 none = 0 := rfl
  rw [e1, e2]
  rfl
section
variable {α β γ : Type} [Rep α] [Rep β] [Rep γ] {K : PySem.W.Frag} {σ : L2.St} {F H : Hp} {te : TE} {wi : TI} {tt : TT} {vs : List Nat}
/-- no test, a pair as the target -/
theorem ev_map2 {xs : List (α × β)} {f : α × β → γ} {i j : Nat} (hi : EvI wi σ F H xs) (hz : xs.length ≤ sizeLine) (hw : ∀ x y, wipe (((wipe σ vs).set i (some x)).set j (some y)) vs = wipe σ vs)
    (hs : ∀ (n : Nat) z, xs[n]? = some z → ∀ F1 H1 x y, Gr F H F1 H1 → rep F1 x z.1 → rep F1 y z.2 → Ev te (((wipe σ vs).set i (some x)).set j (some y)) F1 H1 (f z)) : Ev (tLc wi (gTup K 2 (gCons (gName i) (gCons (gName j) gNil))) tYes te vs) σ F H (xs.map f) := by
  have h := ev_lc (p := fun _ => true) (f := f) (te := te) (tt := tYes) (g := gTup K 2 (gCons (gName i) (gCons (gName j) gNil))) (vs := vs) hi hz (fun n z e F1 H1 x g1 r => g_pair g1.sub r fun v w rv rw' => ⟨rfl, hw v w, et_yes, fun _ => hs n z e F1 H1 v w g1 rv rw'⟩) gtup_mono2
  have e : xs.filter (fun _ => true) = xs := by simp
  rwa [e] at h
end
end Ly
set_option maxHeartbeats 4000000
/-! Lt: walks of dicts (locked), sorted texts -/
namespace Ly
open PySem PySem.Spec PyProof.Rows L2 SX
open Rep
class KeyVal (κ : Type) [KeyT κ] [Rep κ] : Prop where
  vk : ∀ {F : Hp} {k : κ}, rep F (kV (KeyT.key k)) k
instance : KeyVal Int := ⟨rfl⟩
instance : KeyVal Str := ⟨rfl⟩
section
variable {κ α β : Type} [DecidableEq κ] [KeyT κ] [Rep κ] [KeyVal κ] [Rep α] [Rep β] {K : PySem.W.Frag} {σ : L2.St} {F H : Hp} {td ta te : TE} {p : Addr} {o : Obj} {kvs : List (Key × V)} {ds : List (κ × α)}
theorem ei_keys (ht : EvV td σ F H (.ref p)) (e : F p = some (.frz o (.dK kvs))) (hp : Paired (DRel F) kvs ds) : EvI (iKeys td) σ F H (ds.map (·.1)) := fun F1 H1 g R r => ht F1 H1 g _ fun F2 H2 g2 => by
  have s2 : Same F F2 := g.fr.trans g2.fr
  refine ⟨p, o, rfl, .inl ⟨kvs, g2.sub _ _ (s2 _ _ e), r _ F2 H2 g2 ⟨fun F' H' a b i hi => ?_, fun F' H' a b => ?_, fun F' H' a b i z hz x H'' y => ?_⟩⟩⟩
  · rw [List.length_map] at hi
    exact ⟨b _ _ (a _ _ (s2 _ _ e)), by rw [paired_len hp]; exact hi⟩
  · exact ⟨b _ _ (a _ _ (s2 _ _ e)), by rw [paired_len hp, List.length_map]; exact Nat.le_refl _⟩
  · obtain ⟨eH, k, v, e1, ex⟩ := y
    subst eH ex
    obtain ⟨d, e2, r1⟩ := paired_at hp e1
    rw [List.getElem?_map, e2] at hz
    cases hz
    refine ⟨F', Grow.refl b, ?_⟩
    rw [show k = KeyT.key d.1 from r1.1]
    exact KeyVal.vk
end
/-- p is locked, in both heaps -/
theorem gr_lock {F H F1 H1 : Hp} {p : Addr} {u o : HO} (g : Gr F H F1 H1) (f : F p = none) (e : H p = some u) : Gr (upd F p o) (upd H p o) (upd F1 p o) (upd H1 p o) where
  fr := fun a x h => by
    by_cases z : a = p
    · rw [z, upd_same] at h ⊢; exact h
    · rw [upd_ne z] at h ⊢; exact g.fr a x h
  sub := fun a x h => by
    by_cases z : a = p
    · rw [z, upd_same] at h ⊢; exact h
    · rw [upd_ne z] at h ⊢; exact g.sub a x h
  hp := fun a x m h => by
    by_cases z : a = p
    · rw [z, upd_same] at h ⊢; exact h
    · rw [upd_ne z] at h ⊢; exact g.hp a x m h
  new := fun a x h => by
    by_cases z : a = p
    · rw [z, upd_same, upd_same]
    · rw [upd_ne z] at h
      rw [upd_ne z, upd_ne z]
      exact g.new a x h
  dom := fun a x h => by
    by_cases z : a = p
    · rw [z]
      exact ⟨o, upd_same⟩
    · rw [upd_ne z] at h ⊢
      exact g.dom a x h
/-- the ghost heap without p -/
def less (F : Hp) (p : Addr) : Hp := fun a => if a = p then none else F a
theorem less_ne {F : Hp} {p a : Addr} (h : a ≠ p) : less F p a = F a := if_neg h
theorem less_same {F : Hp} {p : Addr} : less F p p = none := if_pos rfl
theorem gr_unlock {F H F' H' : Hp} {p : Addr} {u o : HO} (g : Gr (upd F p o) (upd H p o) F' H') (s : Same F H) (f : F p = none) (e : H p = some u) : Gr F H (less F' p) (upd H' p u) where
  fr := fun a x h => by
    have z : a ≠ p := fun z => by rw [z, f] at h; cases h
    rw [less_ne z]
    exact g.fr a x (by rw [upd_ne z]; exact h)
  sub := fun a x h => by
    by_cases z : a = p
    · rw [z, less_same] at h; cases h
    · rw [less_ne z] at h
      rw [upd_ne z]
      exact g.sub a x h
  hp := fun a x m h => by
    by_cases z : a = p
    · rw [z] at h ⊢
      rw [upd_same, ← e, h]
    · rw [upd_ne z]
      exact g.hp a x m (by rw [upd_ne z]; exact h)
  new := fun a x h => by
    by_cases z : a = p
    · rw [z, less_same, f]
    · rw [less_ne z, g.new a x (by rw [upd_ne z]; exact h), upd_ne z]
  dom := fun a x h => by
    by_cases z : a = p
    · rw [z]; exact ⟨u, upd_same⟩
    · rw [upd_ne z]
      exact g.dom a x (by rw [upd_ne z]; exact h)
theorem ev_lockI {F H : Hp} {σ : L2.St} {te : TE} {p : Addr} {kvs : List (Key × V)} {zs : List Int} (s : Same F H) (e : H p = some (.dK kvs)) (f : F p = none) (h : ∀ od, Ev te σ (upd F p (.frz od (.dK kvs))) (upd H p (.frz od (.dK kvs))) zs) : Ev (tLockE te) σ F H zs := fun F1 H1 g Q q => by
  have e1 := Gr.at g e
  have f1 := g.live e f
  refine ⟨p, _, e1, trivial, fun od => ?_⟩
  refine h od _ _ (gr_lock g f e) _ fun v F2 H2 g2 rv => ?_
  have fz : F2 p = some (.frz od (.dK kvs)) := g2.fr _ _ upd_same
  refine ⟨g2.sub _ _ fz, q v _ _ (gr_unlock g2 g.sub f1 e1) ?_⟩
  obtain ⟨a, vs, ev, ea, hp⟩ := rv
  have ne : a ≠ p := fun z => by rw [z, fz] at ea; cases ea
  refine ⟨a, vs, ev, by rw [less_ne ne]; exact ea, ?_⟩
  exact L2.Paired.mapP hp fun _ _ r => r
section
variable {K : PySem.W.Frag} {σ : L2.St} {F H : Hp} {ta : TE}
theorem ev_sortS {zs : List Str} (h : Ev ta σ F H zs) : Ev (tCB (rSortS K) (tCons ta tNil)) σ F H (sortW zs) := fun F1 H1 g Q q => h F1 H1 g _ fun v F2 H2 g2 rv => by
  obtain ⟨a, vs, rfl, e, hp⟩ := rv
  have ev := paired_strs hp
  subst ev
  refine ⟨a, zs, rfl, sq_of g2.sub e, fun ys p h1 h2 n => ?_⟩
  rw [sortW_is h1 h2]
  exact q _ _ _ (g2.trans (Grow.ice g2.sub n)) (rep_lst upd_same (strs_paired _))
end
theorem sortW_first {xs : List Str} (h : xs ≠ []) : ∃ m, (sortW xs).take 1 = [m] ∧ m ∈ xs ∧ ∀ x ∈ xs, m.cps.toList ≤ x.cps.toList := by
  cases e : sortW xs with
  | nil =>
    have := sortW_len xs
    rw [e] at this
    exact absurd (List.length_eq_zero_iff.mp this.symm) h
  | cons m r =>
    refine ⟨m, rfl, sortW_mem.mp (by rw [e]; exact List.mem_cons_self ..), fun x hx => ?_⟩
    have hx := sortW_mem.mpr hx
    have pw := sortW_pw xs
    rw [e] at hx pw
    rcases List.mem_cons.mp hx with z | z
    · rw [z]; exact List.le_refl _
    · exact leS_iff.mp ((List.pairwise_cons.mp pw).1 x z)
theorem app_le : ∀ {a b : List Nat} (x : List Nat), a.length = b.length → a ≤ b → a ++ x ≤ b ++ x
  | [], [], x, _, _ => List.le_refl _
  | [], _ :: _, _, h, _ => by simp at h
  | _ :: _, [], _, h, _ => by simp at h
  | c :: a, d :: b, x, hl, h => by
    rw [List.cons_append, List.cons_append]
    rw [List.cons_le_cons_iff] at h ⊢
    rcases h with h | ⟨h1, h2⟩
    · exact .inl h
    · exact .inr ⟨h1, app_le x (by simpa using hl) h2⟩
end Ly
set_option maxHeartbeats 4000000
/-! Ls: == of lists, sets of ints, membership -/
namespace Ly
open PySem PySem.Spec PyProof.Rows L2 SX
open Rep
class Dat (α : Type) [Rep α] [DecidableEq α] where
  dat : α → PyData
  dep : Nat
  dp : ∀ {K : PySem.W.Frag} {F H : Hp} {v : V} {a : α}, Same F H → rep F v a → Dp K H v (dat a)
  lay : ∀ a : α, (dat a).canLay0 = true
  deep : ∀ a : α, (dat a).depth ≤ dep
  eqv : ∀ a b : α, PyData.eqv (dat a) (dat b) = decide (a = b)
instance : Dat Int where
  dat := .int
  dep := 0
  dp := fun s r => by cases r; exact .int _
  lay := fun a => by simp [PyData.canLay0]
  deep := fun a => by simp [PyData.depth]
  eqv := fun a b => by
    simp [PyData.eqv]
    rw [Bool.eq_iff_iff]
    simp
section
variable {α : Type} [Rep α] [DecidableEq α] [Dat α]
open Dat
theorem dp_all {K : PySem.W.Frag} {F H : Hp} (s : Same F H) : ∀ {vs : List V} {as : List α}, Paired (rep F) vs as → DpAll K H vs (as.map dat)
  | _, _, .nil => .nil
  | _, _, .cons r t => .cons (dp s r) (dp_all s t)
theorem lay_all : ∀ as : List α, PyData.canLayAll0 (as.map dat) = true
  | [] => by simp [PyData.canLayAll0]
  | a :: r => by
    rw [List.map_cons, PyData.canLayAll0, lay, lay_all r]
    rfl
theorem deep_all : ∀ as : List α, PyData.depthAll (as.map dat) ≤ dep α
  | [] => by simp [PyData.depthAll]
  | a :: r => by
    rw [List.map_cons, PyData.depthAll]
    have := deep a
    have := deep_all r
    omega
theorem eqv_all : ∀ as bs : List α, PyData.eqvAll (as.map dat) (bs.map dat) = decide (as = bs)
  | [], [] => by simp [PyData.eqvAll]
  | [], _ :: _ => by simp [PyData.eqvAll]
  | _ :: _, [] => by simp [PyData.eqvAll]
  | a :: r, b :: t => by
    rw [List.map_cons, List.map_cons, PyData.eqvAll, eqv, eqv_all r t, Bool.eq_iff_iff]
    simp
instance : Dat (List α) where
  dat := fun as => .list (as.map dat)
  dep := dep α + 1
  dp := fun s ⟨a, vs, ev, e, hp⟩ => by
    subst ev
    exact .lst (sq_of s e) (dp_all s hp)
  lay := fun as => by
    rw [PyData.canLay0]
    exact lay_all as
  deep := fun as => by
    rw [PyData.depth]
    have := deep_all as
    omega
  eqv := fun as bs => by
    rw [PyData.eqv]
    exact eqv_all as bs
theorem shaped_dat (h : dep α ≤ 64) (a : α) : SeqAt.shaped (dat a) = true := by
  unfold SeqAt.shaped
  rw [lay, Bool.true_and, decide_eq_true_eq]
  exact Nat.le_trans (deep a) h
variable {K : PySem.W.Frag} {σ : L2.St} {F H : Hp} {ta tb : TE} {a b : α}
theorem ev_eqD (h : dep α ≤ 64) (ha : Ev ta σ F H a) (hb : Ev tb σ F H b) : Ev (tOp (rEqD K) ta tb) σ F H (decide (a = b)) := ev_op (fun F H v u Q s rx ry q =>
  ⟨_, _, dp s rx, dp s ry, shaped_dat h a, shaped_dat h b, q _ F H (Grow.refl s) (congrArg V.bl (eqv a b))⟩) ha hb
theorem ev_neD (h : dep α ≤ 64) (ha : Ev ta σ F H a) (hb : Ev tb σ F H b) : Ev (tOp (rNeD K) ta tb) σ F H (!decide (a = b)) := ev_op (fun F H v u Q s rx ry q =>
  ⟨_, _, dp s rx, dp s ry, shaped_dat h a, shaped_dat h b, q _ F H (Grow.refl s) (congrArg (fun k => V.bl (!k)) (eqv a b))⟩) ha hb
end
end Ly
set_option maxHeartbeats 4000000
/-! Rv: set(a list of ints), then sorted -/
namespace Ly
open PySem PySem.Spec PyProof.Rows L2 SX
section
variable {P : Program} {w : World} {A : Around} {E : Value → Shared → Prop} {s : Shared}
/-- the set before its first member -/
abbrev bare (w : World) : Obj := { cls := .type "set", dict := none, data := .set #[] 0 (.fresh 0 0 (!w.params.followText "set-order")) }
/-- what the members' loop leaves -/
def Filled (w : World) (s : Shared) (ns : List Int) (r : Value) (s2 : Shared) : Prop :=
  r = .none ∧ ∃ h2 t2 c2, s2 = { s with heap := h2, toks := t2 } ∧ SetR w h2 s.heap.objs.size (fun j => decide (j ∈ ns)) c2 ∧ c2 ≤ ns.length ∧ ∀ b o, s.heap.get? b = some o → h2.get? b = some o
theorem not_two {x a b : Addr} (h1 : x ≠ a) (h2 : x ≠ b) : x ∉ [a, b] := fun z => by
  rcases List.mem_cons.mp z with z | z
  · exact h1 z
  · exact h2 (List.mem_singleton.mp z)
theorem set_of_list {l : Addr} {items : Array Value} {ns : List Int} {Q : Value → Shared → Prop} (nh : A.handled = none) (hl : s.heap.IsList l items) (hn : IntsAre items.toList ns) (fe : ns.length + 1 < scanBound)
    (k : ∀ h2 t2 c2, SetR w h2 s.heap.objs.size (fun j => decide (j ∈ ns)) c2 → c2 ≤ ns.length → (∀ b o, s.heap.get? b = some o → h2.get? b = some o) → Q (.ref s.heap.objs.size) { s with heap := h2, toks := t2 }) :
    wpAny (model P w) A (call (.type "set") [.ref l]) Q E s := by
  have cnt : items.size = ns.length := by rw [← Array.length_toList]; exact hn.length
  have C := F.called_set
  obtain ⟨mr, rest, line⟩ := C.mro
  have c1 := C.made
  have c2 := C.sub
  have c3 := C.notType
  have c4 := C.canCreate
  have c5 := F.typeCall_set_1 (.ref l)
  refine wpAny_call (codeAny_of_tree (show wpAny _ _ (callAny (.type "set") _) _ _ _ from wpAny_pure ⟨Code.quiet_builtin _ (by decide +kernel), codeAny_builtin F.entry_type_call ?_⟩))
  rw [Around.under_plain (weight_type_call_type "set" [.ref l] []) rfl]
  repeat any_goals first | wp_step | assumption
  refine codeAny_mono (code_set_led1 (.ref l) (E := E) (Q₁ := fun x s1 => x = .ref s.heap.objs.size ∧ s1 = { s with heap := s.heap.push (bare w) }) ⟨rfl, rfl⟩) fun r s1 out => ?_
  match r, out with
  | .error _, out => exact out
  | .ok (.ret x), out =>
    obtain ⟨rfl, rfl⟩ := out
    have born : (s.heap.push (bare w)).get? s.heap.objs.size = some (bare w) := Heap.get?_push_size _ rfl
    have ty : Shared.TypeIs { s with heap := s.heap.push (bare w) } (.ref s.heap.objs.size) "set" := ⟨_, born, rfl⟩
    have i1 := C.init.lookup
    have i2 := C.init.bind (.ref s.heap.objs.size)
    repeat any_goals first | wp_step | assumption
    refine codeAny_mono (codeAny_call_builtin (R := wants (Filled w s ns) E) C.init.plain F.entry_set_init (check_set_init_1 ty ?_)) fun r2 s2 out2 => ?_
    · obtain ⟨⟨lc, ld, lx, lsl⟩, here, isl, gap, dat⟩ := hl
      dsimp only at isl dat
      subst isl dat
      have lt : l < s.heap.objs.size := Heap.lt_size here
      have there : (s.heap.push (bare w)).get? l = some { cls := .type "list", dict := ld, data := .seq items gap, slots := lsl } := Heap.get?_push_of_some _ here
      have isl2 : (s.heap.push (bare w)).IsList l items := ⟨_, there, rfl, gap, rfl⟩
      have big : (s.heap.push (bare w)).objs.size = s.heap.objs.size + 1 := Heap.size_push ..
      have up : ∀ {b : Addr}, b < s.heap.objs.size → b ≠ (s.heap.push (bare w)).objs.size := fun {b} h => by
        rw [big]
        exact Nat.ne_of_lt (Nat.lt_succ_of_lt h)
      have a1 := F.sub_list_set
      have a2 := F.sub_list_frozenset
      have a3 : (Value.type "list" == .type "dict") = false := by decide
      unfold Builtin.«set.__init__» noKeywords Builtin.Frozenset.updateFrom
      generalize ei : pyIter = it
      wp_walk
      subst ei
      refine wpAny_pyIter_list isl2 (wpAny_bind (wpAny_runValue ?_))
      have out : s.heap.objs.size ∉ [(s.heap.push (bare w)).objs.size, l] := not_two (by rw [big]; exact Nat.ne_of_lt (Nat.lt_succ_self _)) (Nat.ne_of_gt lt)
      have each : ∀ (i : Nat) (v : Value), items[i]? = some v → ∃ k t, ns[i]? = some k ∧ v = .int k t := fun i v hv => by
        obtain ⟨t, e⟩ := PyProof.Rows.IntsAre.int_at hn i v (by rw [Array.getElem?_toList]; exact hv)
        have li : i < ns.length := cnt ▸ (Array.getElem?_eq_some_iff.mp hv).1
        have gi := List.getElem?_eq_getElem li
        refine ⟨_, t, gi, ?_⟩
        rw [e, List.getD_eq_getElem?_getD, gi]
        rfl
      have quiet : A.in1.in1.in1.handled = none := by simp [nh]
      refine set_update_ints (Walks.list quiet _ l (up lt) items).toS s.heap.objs.size out ns cnt fe each items.size 0 _ (Nat.sub_zero _) (Nat.zero_le _) ⟨⟨_, Heap.get?_push_size _ rfl, rfl, rfl⟩, isl2.push _⟩ ⟨0, Nat.le_refl _, setR_new_at (Heap.get?_push_of_some _ born)⟩ fun s2 c2 mv le full => ?_
      obtain ⟨h2, gn, dr, t2, os⟩ := s2
      obtain rfl : gn = s.gens := mv.gens
      obtain rfl : dr = s.drawn := mv.drawn
      obtain rfl : os = s.os := mv.os
      exact wpAny_pure (wpAny_pure ⟨rfl, h2, t2, c2, rfl, full, cnt ▸ le, fun b o e =>
        mv.heap b o (not_two (Nat.ne_of_lt (Heap.lt_size e)) (up (Heap.lt_size e))) (Heap.get?_push_of_some _ (Heap.get?_push_of_some _ e))⟩)
    · match r2, out2 with
      | .error _, out2 => exact out2
      | .ok (.ret y), out2 =>
        obtain ⟨rfl, h2, t2, c2, rfl, full, le, kp⟩ := out2
        repeat any_goals first | wp_step | assumption
        exact k _ _ _ full le kp
end
end Ly
set_option maxHeartbeats 4000000
/-! Lp: lists that are alive, sets of ints, purses of draws -/
namespace Ly
open PySem PySem.Spec PyProof.Rows L2 SX
open Rep
section
variable {α : Type} [Rep α] {K : PySem.W.Frag} {σ : L2.St} {F H : Hp} {te ta : TE} {i n : Nat} {p : Addr} {xs : List V} {x : Int} {D : Ends}
/-- xs[n] of a list that is alive -/
theorem ev_ixLive (hv : σ[i]? = some (some (.ref p))) (e : H p = some (.lst xs)) (hn : xs[n]? = some (.int x)) : Ev (tOp (rIxL K) (tVar i) (tC (.int (n : Int)))) σ F H x := fun F1 H1 g Q q =>
  ⟨_, hv, p, xs, (n : Int), .int x, rfl, rfl, .inl (.inl (Gr.at g e)), atI_nat hn, q _ F1 H1 (Grow.refl g.sub) rfl⟩
/-- xs[n] = x -/
theorem st_setIx (hv : σ[i]? = some (some (.ref p))) (s : Same F H) (e : H p = some (.lst xs)) (h : Ev te σ F H x) (hn : n < xs.length) (k : ∀ F1 H1, Gr F H F1 H1 → H1 p = some (.lst xs) → D.nx σ (upd H1 p (.lst (xs.set n (.int x))))) : tAsg te (gSub (tVar i) (tC (.int (n : Int))) rSetL) D σ H := h.go s fun v F1 H1 g r => by
  have r : v = V.int x := r
  subst r
  refine ⟨_, hv, p, xs, (n : Int), n, rfl, rfl, g.at e, ?_, k F1 H1 g (g.at e)⟩
  unfold ixN
  rw [if_pos (by omega), if_pos (by omega), Int.toNat_natCast]
end
/-! ### growth beside one address -/
theorem Grow.wide {M : Addr → Prop} {F H F1 H1 : Hp} (g : Grow (fun _ => False) F H F1 H1) : Grow M F H F1 H1 := Gr.wide g
abbrev Ga (a : Addr) : Hp → Hp → Hp → Hp → Prop := Grow (fun b => b = a)
theorem Ga.put {a : Addr} {F H F1 H1 : Hp} {o : HO} (g : Ga a F H F1 H1) (f : F1 a = none) : Ga a F H F1 (upd H1 a o) := Grow.put g (.inr rfl) f
theorem Ga.other {a b : Addr} {F H F1 H1 : Hp} {o : HO} (g : Ga a F H F1 H1) (n : b ≠ a) (e : H b = some o) : H1 b = some o := g.hp b o n e
/-! ### a purse -/
structure PB (N : Nat) (x0 x1 x2 x3 : Int) : Prop where
  h0 : 0 ≤ x0
  h1 : 0 ≤ x1 ∧ x1 < 2 ^ 31
  h2 : 0 ≤ x2 ∧ x2 ≤ N
  h3 : 0 ≤ x3 ∧ x3 ≤ 100000
def PS (a : Addr) (N : Nat) (F H : Hp) : Prop := ∃ x0 x1 x2 x3, H a = some (.lst [.int x0, .int x1, .int x2, .int x3]) ∧ F a = none ∧ PB N x0 x1 x2 x3
theorem PS.grow {a : Addr} {N : Nat} {F H F1 H1 : Hp} (p : PS a N F H) (g : Gr F H F1 H1) : PS a N F1 H1 := by
  obtain ⟨x0, x1, x2, x3, e, f, b⟩ := p
  exact ⟨x0, x1, x2, x3, g.at e, g.live e f, b⟩
theorem PB.up {N M : Nat} {x0 x1 x2 x3 : Int} (b : PB N x0 x1 x2 x3) (h : N ≤ M) : PB M x0 x1 x2 x3 := ⟨b.h0, b.h1, ⟨b.h2.1, by have := b.h2.2; omega⟩, b.h3⟩
theorem PS.up {a : Addr} {N M : Nat} {F H : Hp} (p : PS a N F H) (h : N ≤ M) : PS a M F H := by
  obtain ⟨x0, x1, x2, x3, e, f, b⟩ := p
  exact ⟨x0, x1, x2, x3, e, f, b.up h⟩
/-- another purse, or the same -/
theorem PS.beside {a b : Addr} {N M : Nat} {F H F1 H1 : Hp} (p : PS b N F H) (g : Ga a F H F1 H1) (pa : PS a M F1 H1) (h : N ≤ M) : PS b M F1 H1 := by
  by_cases e : b = a
  · rw [e]; exact pa
  · obtain ⟨x0, x1, x2, x3, eb, f, bd⟩ := p
    exact ⟨x0, x1, x2, x3, g.hp b _ e eb, by rw [g.new b _ eb]; exact f, bd.up h⟩
def most : Nat := 2 ^ 40
def SpDraw : Sp := fun vs H Q _ => ∃ (F : Hp) (a : Addr) (many : Int) (N : Nat), vs = [.ref a, .int many] ∧ Same F H ∧ PS a N F H ∧ N < most ∧ (1 ≤ many ∧ many ≤ 2000000) ∧
  ∀ r F' H', Ga a F H F' H' → PS a (N + 1) F' H' → 0 ≤ r → r < many → Q (.int r) H'
theorem SpDraw.len (vs : List V) (H : Hp) (Q : VK) (E : XK) (h : SpDraw vs H Q E) : vs.length = 2 := by obtain ⟨_, _, _, _, rfl, _⟩ := h; rfl
def SpOne : Sp := fun vs H Q _ => ∃ (F : Hp) (a b : Addr) (us : List V) (N : Nat), vs = [.ref a, .ref b] ∧ Same F H ∧ PS a N F H ∧ N < most ∧ F b = some (.lst us) ∧ us ≠ [] ∧ us.length ≤ 2000000 ∧
  ∀ r F' H', Ga a F H F' H' → PS a (N + 1) F' H' → r ∈ us → Q r H'
theorem SpOne.len (vs : List V) (H : Hp) (Q : VK) (E : XK) (h : SpOne vs H Q E) : vs.length = 2 := by obtain ⟨_, _, _, _, _, rfl, _⟩ := h; rfl
def SpShuf : Sp := fun vs H Q _ => ∃ (F : Hp) (a : Addr) (v : V) (zs : List Str) (N : Nat), vs = [.ref a, v] ∧ Same F H ∧ PS a N F H ∧ N + zs.length < most ∧ rep F v zs ∧ zs.length ≤ 10000 ∧
  ∀ r (ys : List Str) F' H', Ga a F H F' H' → PS a (N + zs.length) F' H' → ys.Perm zs → rep F' r ys → Q r H'
theorem SpShuf.len (vs : List V) (H : Hp) (Q : VK) (E : XK) (h : SpShuf vs H Q E) : vs.length = 2 := by obtain ⟨_, _, _, _, _, rfl, _⟩ := h; rfl
def purseOf (ns : List Int) (at_ : Int) : List Int := [(if 0 > (cutL ns (some at_) (some (at_ + 1))).sum - 10 ^ 18 then 0 else (cutL ns (some at_) (some (at_ + 1))).sum - 10 ^ 18) % ((10 ^ 60) ^ 8), (cutL ns (some at_) (some (at_ + 1))).sum % 2147483629, 0, at_]
def SpPurse (K : PySem.W.Frag) : Sp := fun vs H Q _ => ∃ (F : Hp) (a : Addr) (ns : List Int) (at_ : Int), vs = [.ref a, .int at_] ∧ Same F H ∧ (∀ F' H', Gr F H F' H' → SqL K H' a (ns.map V.int)) ∧ ∀ r F' H', Gr F H F' H' → rep F' r (purseOf ns at_) → Q r H'
theorem SpPurse.len {K : PySem.W.Frag} (vs : List V) (H : Hp) (Q : VK) (E : XK) (h : SpPurse K vs H Q E) : vs.length = 2 := by obtain ⟨_, _, _, _, rfl, _⟩ := h; rfl
def pursesOf (ns : List Int) (few : Int) : List (List Int) := (ups 0 (if (if (ns.length : Int) < few then (ns.length : Int) else few) > 1 then (if (ns.length : Int) < few then (ns.length : Int) else few) else 1).toNat).map (purseOf ns)
def SpPurses (K : PySem.W.Frag) : Sp := fun vs H Q _ => ∃ (F : Hp) (a : Addr) (ns : List Int) (few : Int), vs = [.ref a, .int few] ∧ Same F H ∧ (∀ F' H', Gr F H F' H' → SqL K H' a (ns.map V.int)) ∧ (0 ≤ few ∧ few ≤ 1000) ∧ ∀ r F' H', Gr F H F' H' → rep F' r (pursesOf ns few) → Q r H'
theorem SpPurses.len {K : PySem.W.Frag} (vs : List V) (H : Hp) (Q : VK) (E : XK) (h : SpPurses K vs H Q E) : vs.length = 2 := by obtain ⟨_, _, _, _, rfl, _⟩ := h; rfl
theorem purse_pb (ns : List Int) {at_ : Int} (h : 0 ≤ at_ ∧ at_ ≤ 100000) : ∃ x0 x1 x2 x3, purseOf ns at_ = [x0, x1, x2, x3] ∧ PB 0 x0 x1 x2 x3 := by
  refine ⟨_, _, _, _, rfl, Int.emod_nonneg _ (by decide), ⟨Int.emod_nonneg _ (by decide), ?_⟩, ⟨by decide, by decide⟩, h⟩
  have := Int.emod_lt_of_pos ((cutL ns (some at_) (some (at_ + 1))).sum) (show (0 : Int) < 2147483629 by decide)
  omega
/-- what is mixed -/
def mixOf (seed spin at_ : Int) : Int := (((((((seed * 69069 + 104729 * spin * spin) + 7919 * at_) + spin) % 2147483647) * ((((seed * 69069 + 104729 * spin * spin) + 7919 * at_) + spin) % 2147483647) + 40503) % 2147483629) * 48271) % 2147483587
theorem mul_l {i j : Int} (h : -(2 ^ 64) < i ∧ i < 2 ^ 64) : IntMulOk i j := CMul.ok (.inl h)
theorem mul_r {i j : Int} (h : -(2 ^ 64) < j ∧ j < 2 ^ 64) : IntMulOk i j := CMul.ok (.inr h)
section
variable {K : PySem.W.Frag} {σ : L2.St} {F H : Hp} {ta tb tc : TE} {to tp : TO} {lo hi : Option Int}
/-- a slice of a list that K may hold -/
theorem ev_slSq {a : Addr} {ns : List Int} (hv : EvV ta σ F H (.ref a)) (hs : ∀ F' H', Gr F H F' H' → SqL K H' a (ns.map V.int)) (h1 : EvO to σ F H lo) (h2 : EvO tp σ F H hi) : Ev (tSl (rSlL K) ta to tp) σ F H (cutL ns lo hi) := fun F1 H1 g Q q =>
  hv F1 H1 g _ fun F2 H2 g2 => h1 F2 H2 (g.trans g2) _ fun F3 H3 g3 => h2 F3 H3 ((g.trans g2).trans g3) _ fun F4 H4 g4 => by
    refine ⟨a, _, rfl, hs F4 H4 (((g.trans g2).trans g3).trans g4), fun l n => ?_⟩
    have e : cutL (ns.map V.int) lo hi = (cutL ns lo hi).map V.int := by
      unfold cutL
      rw [List.map_take, List.map_drop, List.length_map]
    have gi := Grow.ice (M := fun _ => False) (o := .lst (cutL (ns.map V.int) lo hi)) g4.sub n
    refine q _ _ _ (((g2.trans g3).trans g4).trans gi) (rep_lst (vs := cutL (ns.map V.int) lo hi) upd_same ?_)
    rw [e]
    exact ints_paired _
theorem ev_lenSq {a : Addr} {ns : List Int} (hv : EvV ta σ F H (.ref a)) (hs : ∀ F' H', Gr F H F' H' → SqL K H' a (ns.map V.int)) : Ev (tCB (rLenL K) (tCons ta tNil)) σ F H (ns.length : Int) := fun F1 H1 g Q q =>
  hv F1 H1 g _ fun F2 H2 g2 => ⟨a, _, rfl, .inl (hs F2 H2 (g.trans g2)), by rw [List.length_map]; exact q _ F2 H2 g2 rfl⟩
theorem ev_lst4 {td : TE} {a b c d : Int} (ha : Ev ta σ F H a) (hb : Ev tb σ F H b) (hc : Ev tc σ F H c) (hd : Ev td σ F H d) : Ev (tLst (tCons ta (tCons tb (tCons tc (tCons td tNil))))) σ F H [a, b, c, d] := fun F1 H1 g Q q =>
  ha F1 H1 g _ fun v F2 H2 g2 r1 => hb F2 H2 (g.trans g2) _ fun u F3 H3 g3 r2 => hc F3 H3 ((g.trans g2).trans g3) _ fun w F4 H4 g4 r3 => hd F4 H4 (((g.trans g2).trans g3).trans g4) _ fun z F5 H5 g5 r4 => by
    have r1 : v = V.int a := r1
    have r2 : u = V.int b := r2
    have r3 : w = V.int c := r3
    have r4 : z = V.int d := r4
    subst r1 r2 r3 r4
    exact ⟨(by show 4 ≤ sizeLine; rw [sizeLine_eq]; decide), fun p n => q _ _ _ ((((g2.trans g3).trans g4).trans g5).trans (Grow.ice g5.sub n)) (rep_lst upd_same (ints_paired [a, b, c, d]))⟩
theorem ev_bits {i : Int} (h : Ev ta σ F H i) : Ev (tBits ta) σ F H ((Builtin.Int.intBits i : Nat) : Int) := fun F1 H1 g Q q => h F1 H1 g _ fun v F2 H2 g2 r => ⟨i, r, q _ F2 H2 g2 rfl⟩
end
/-! ### set(list), sorted -/
def rSetI (K : PySem.W.Frag) (w : World) : List V → Hp → VK → Prop := fun xs H Q => ∃ (l : Addr) (ns : List Int), xs = [V.ref l] ∧ SqL K H l (ns.map V.int) ∧ ns.length + 1 < scanBound ∧ ∀ p c, H p = none → c ≤ ns.length → Q (.ref p) (upd H p (SetO w p (fun j => decide (j ∈ ns)) c))
theorem o_setI {X : Cx} (calm : X.calm = true) : CallR X (.type "set") (rSetI X.K X.w) := fun pins s σ H xs us Q I r ⟨l, ns, e, hl, fe, q⟩ => by
  subst e
  obtain ⟨its, rv, pl, hz⟩ := I.list hl
  rw [Vals.ref1 r]
  refine set_of_list (I.ok.hd calm) pl.isList (ints_of_vals rv) fe fun h2 t2 c2 full le kp => ?_
  exact ⟨.ref _, _, I.laid (t' := t2) kp (Nat.le_refl _) (setO_new full), rfl, q _ c2 (I.hok.fresh (Nat.le_refl _)) le⟩
abbrev o_sortedSet := @cr_sortedSet
theorem tnil_run {σ : L2.St} {H : Hp} {k : List V → Hp → Prop} (h : k [] H) : tNil σ H k := h
theorem setI_run {K : PySem.W.Frag} {w : World} {F H : Hp} {v : V} {ns : List Int} {Q : VK} (s : Same F H) (r : rep F v ns) (fe : ns.length < 64) (k : ∀ p c, H p = none → c ≤ ns.length → Q (.ref p) (upd H p (SetO w p (fun j => decide (j ∈ ns)) c))) : rSetI K w [v] H Q := by
  obtain ⟨a, vs, rfl, e, hp⟩ := r
  have ev := paired_ints hp
  subst ev
  exact ⟨a, ns, rfl, sq_of s e, by unfold scanBound; omega, k⟩
theorem sortO_run {w : World} {F H : Hp} {p : Addr} {c : Nat} {ns zs : List Int} {Q : VK} (s : Same F H) (n : H p = none) (le : c ≤ ns.length) (fe : ns.length < 64) (hz : zs.Pairwise (· < ·)) (hm : ∀ z, z ∈ zs ↔ z ∈ ns) (k : ∀ u F' H', Gr F H F' H' → rep F' u zs → Q u H') : rSortedSet w [.ref p] (upd H p (SetO w p (fun j => decide (j ∈ ns)) c)) Q := by
  refine ⟨p, _, c, rfl, upd_same, by omega, fun ks q1 hs hk _ n2 => ?_⟩
  have ek : ks = zs := sorted_ext hs hz fun z => (hk z).trans ((decide_eq_true_iff).trans (hm z).symm)
  subst ek
  have g1 := Grow.lay (M := fun _ => False) (o := SetO w p (fun j => decide (j ∈ ns)) c) s n
  exact k _ _ _ (g1.trans (Grow.ice g1.sub n2)) (rep_lst upd_same (ints_paired _))
theorem sort_set_run {K : PySem.W.Frag} {w : World} {F H : Hp} {v : V} {ns zs : List Int} {Q : VK} (s : Same F H) (r : rep F v ns) (fe : ns.length < 64) (hz : zs.Pairwise (· < ·)) (hm : ∀ z, z ∈ zs ↔ z ∈ ns) (k : ∀ u F' H', Gr F H F' H' → rep F' u zs → Q u H') : rSetI K w [v] H fun u H1 => rSortedSet w [u] H1 Q := by
  obtain ⟨a, vs, rfl, e, hp⟩ := r
  have ev := paired_ints hp
  subst ev
  refine ⟨a, ns, rfl, sq_of s e, by unfold scanBound; omega, fun p c n le => ?_⟩
  refine ⟨p, _, c, rfl, upd_same, by omega, fun ks q1 hs hk _ n2 => ?_⟩
  have ek : ks = zs := sorted_ext hs hz fun z => (hk z).trans ((decide_eq_true_iff).trans (hm z).symm)
  subst ek
  have g1 := Grow.lay (M := fun _ => False) (o := SetO w p (fun j => decide (j ∈ ns)) c) s n
  exact k _ _ _ (g1.trans (Grow.ice g1.sub n2)) (rep_lst upd_same (ints_paired _))
end Ly
set_option maxHeartbeats 4000000
namespace K90
open PySem PySem.Spec PyProof.Rows L2 SX Ly
open Rep
def top (i : Nat) : Stmt := PySem.Challenge.pw_sameminute_k90_whole_more_minutes_told_s.main.body.getD i (.Pass ⟨0, 0, 0, 0⟩)
abbrev s_is_whole : Stmt := top 1
abbrev N_is_whole : List Str := ["value"]
theorem sc_is_whole : FnScope N_is_whole ["value"] (defScope s_is_whole) := ⟨rfl, rfl, rfl, by decide +kernel, rfl, by decide +kernel, by decide +kernel⟩
def d_is_whole : He.DefD := ⟨("is_whole", none), "is_whole", "is_whole", defArgs s_is_whole, defBody s_is_whole, defScope s_is_whole, [], []⟩
abbrev s_is_count : Stmt := top 2
abbrev N_is_count : List Str := ["value", "least"]
theorem sc_is_count : FnScope N_is_count ["value", "least"] (defScope s_is_count) := ⟨rfl, rfl, rfl, by decide +kernel, rfl, by decide +kernel, by decide +kernel⟩
def d_is_count : He.DefD := ⟨("is_count", none), "is_count", "is_count", defArgs s_is_count, defBody s_is_count, defScope s_is_count, [.int 0], []⟩
abbrev s_check_hour : Stmt := top 8
abbrev N_check_hour : List Str := ["value"]
theorem sc_check_hour : FnScope N_check_hour ["value"] (defScope s_check_hour) := ⟨rfl, rfl, rfl, by decide +kernel, rfl, by decide +kernel, by decide +kernel⟩
def d_check_hour : He.DefD := ⟨("check_hour", none), "check_hour", "check_hour", defArgs s_check_hour, defBody s_check_hour, defScope s_check_hour, [], []⟩
abbrev s_told_count : Stmt := top 13
abbrev N_told_count : List Str := ["word", "sign"]
theorem sc_told_count : FnScope N_told_count ["word"] (defScope s_told_count) := ⟨rfl, rfl, rfl, by decide +kernel, rfl, by decide +kernel, by decide +kernel⟩
def d_told_count : He.DefD := ⟨("told_count", none), "told_count", "told_count", defArgs s_told_count, defBody s_told_count, defScope s_told_count, [], []⟩
abbrev s_steps_by : Stmt := top 15
abbrev N_steps_by : List Str := ["hour", "step"]
theorem sc_steps_by : FnScope N_steps_by ["hour"] (defScope s_steps_by) := ⟨rfl, rfl, rfl, by decide +kernel, rfl, by decide +kernel, by decide +kernel⟩
def d_steps_by : He.DefD := ⟨("steps_by", none), "steps_by", "steps_by", defArgs s_steps_by, defBody s_steps_by, defScope s_steps_by, [], []⟩
abbrev s_words_by : Stmt := top 16
abbrev N_words_by : List Str := ["hour", "minute", "found", "step"]
theorem sc_words_by : FnScope N_words_by ["hour"] (defScope s_words_by) := ⟨rfl, rfl, rfl, by decide +kernel, rfl, by decide +kernel, by decide +kernel⟩
def d_words_by : He.DefD := ⟨("words_by", none), "words_by", "words_by", defArgs s_words_by, defBody s_words_by, defScope s_words_by, [], []⟩
abbrev s_piece_told : Stmt := top 17
abbrev N_piece_told : List Str := ["hour", "piece", "parts", "minute", "step"]
theorem sc_piece_told : FnScope N_piece_told ["hour", "piece"] (defScope s_piece_told) := ⟨rfl, rfl, rfl, by decide +kernel, rfl, by decide +kernel, by decide +kernel⟩
def d_piece_told : He.DefD := ⟨("piece_told", none), "piece_told", "piece_told", defArgs s_piece_told, defBody s_piece_told, defScope s_piece_told, [], []⟩
abbrev s_can_begin : Stmt := top 18
abbrev N_can_begin : List Str := ["hour", "piece", "minute", "parts", "step"]
theorem sc_can_begin : FnScope N_can_begin ["hour", "piece"] (defScope s_can_begin) := ⟨rfl, rfl, rfl, by decide +kernel, rfl, by decide +kernel, by decide +kernel⟩
def d_can_begin : He.DefD := ⟨("can_begin", none), "can_begin", "can_begin", defArgs s_can_begin, defBody s_can_begin, defScope s_can_begin, [], []⟩
abbrev s_check_minute_text : Stmt := top 19
abbrev N_check_minute_text : List Str := ["hour", "text", "begun", "at", "sign"]
theorem sc_check_minute_text : FnScope N_check_minute_text ["hour", "text"] (defScope s_check_minute_text) := ⟨rfl, rfl, rfl, by decide +kernel, rfl, by decide +kernel, by decide +kernel⟩
def d_check_minute_text : He.DefD := ⟨("check_minute_text", none), "check_minute_text", "check_minute_text", defArgs s_check_minute_text, defBody s_check_minute_text, defScope s_check_minute_text, [], []⟩
abbrev s_read_minutes : Stmt := top 20
abbrev N_read_minutes : List Str := ["hour", "text", "sign", "found", "piece", "minute"]
theorem sc_read_minutes : FnScope N_read_minutes ["hour", "text"] (defScope s_read_minutes) := ⟨rfl, rfl, rfl, by decide +kernel, rfl, by decide +kernel, by decide +kernel⟩
def d_read_minutes : He.DefD := ⟨("read_minutes", none), "read_minutes", "read_minutes", defArgs s_read_minutes, defBody s_read_minutes, defScope s_read_minutes, [], []⟩
abbrev s_check_minutes_told : Stmt := top 21
abbrev N_check_minutes_told : List Str := ["hour", "minutes", "minute", "one", "late"]
theorem sc_check_minutes_told : FnScope N_check_minutes_told ["hour", "minutes"] (defScope s_check_minutes_told) := ⟨rfl, rfl, rfl, by decide +kernel, rfl, by decide +kernel, by decide +kernel⟩
def d_check_minutes_told : He.DefD := ⟨("check_minutes_told", none), "check_minutes_told", "check_minutes_told", defArgs s_check_minutes_told, defBody s_check_minutes_told, defScope s_check_minutes_told, [], []⟩
abbrev s_plain_minutes : Stmt := top 22
abbrev N_plain_minutes : List Str := ["hour", "minutes", "minute"]
theorem sc_plain_minutes : FnScope N_plain_minutes ["hour", "minutes"] (defScope s_plain_minutes) := ⟨rfl, rfl, rfl, by decide +kernel, rfl, by decide +kernel, by decide +kernel⟩
def d_plain_minutes : He.DefD := ⟨("plain_minutes", none), "plain_minutes", "plain_minutes", defArgs s_plain_minutes, defBody s_plain_minutes, defScope s_plain_minutes, [], []⟩
abbrev s_useful_pieces : Stmt := top 23
abbrev N_useful_pieces : List Str := ["hour", "minutes", "minute", "words", "wanted", "found", "word"]
theorem sc_useful_pieces : FnScope N_useful_pieces ["hour", "minutes"] (defScope s_useful_pieces) := ⟨rfl, rfl, rfl, by decide +kernel, rfl, by decide +kernel, by decide +kernel⟩
def d_useful_pieces : He.DefD := ⟨("useful_pieces", none), "useful_pieces", "useful_pieces", defArgs s_useful_pieces, defBody s_useful_pieces, defScope s_useful_pieces, [], []⟩
abbrev s_bits_of : Stmt := top 24
abbrev N_bits_of : List Str := ["minutes", "minute"]
theorem sc_bits_of : FnScope N_bits_of ["minutes"] (defScope s_bits_of) := ⟨rfl, rfl, rfl, by decide +kernel, rfl, by decide +kernel, by decide +kernel⟩
def d_bits_of : He.DefD := ⟨("bits_of", none), "bits_of", "bits_of", defArgs s_bits_of, defBody s_bits_of, defScope s_bits_of, [], []⟩
abbrev s_cheapest_covers : Stmt := top 25
abbrev N_cheapest_covers : List Str := ["pieces", "whole", "costs", "waiting", "cost", "lot", "word", "told", "late", "much"]
theorem sc_cheapest_covers : FnScope N_cheapest_covers ["pieces", "whole"] (defScope s_cheapest_covers) := ⟨rfl, rfl, rfl, by decide +kernel, rfl, by decide +kernel, by decide +kernel⟩
def d_cheapest_covers : He.DefD := ⟨("cheapest_covers", none), "cheapest_covers", "cheapest_covers", defArgs s_cheapest_covers, defBody s_cheapest_covers, defScope s_cheapest_covers, [], []⟩
abbrev s_shortest_minutes : Stmt := top 26
abbrev N_shortest_minutes : List Str := ["hour", "minutes", "word", "told", "pieces", "whole"]
theorem sc_shortest_minutes : FnScope N_shortest_minutes ["hour", "minutes"] (defScope s_shortest_minutes) := ⟨rfl, rfl, rfl, by decide +kernel, rfl, by decide +kernel, by decide +kernel⟩
def d_shortest_minutes : He.DefD := ⟨("shortest_minutes", none), "shortest_minutes", "shortest_minutes", defArgs s_shortest_minutes, defBody s_shortest_minutes, defScope s_shortest_minutes, [], []⟩
abbrev s_first_cover : Stmt := top 27
abbrev N_first_cover : List Str := ["pieces", "whole", "costs", "best", "rows", "cost", "late", "lot", "word", "told", "text"]
theorem sc_first_cover : FnScope N_first_cover ["pieces", "whole"] (defScope s_first_cover) := ⟨rfl, rfl, rfl, by decide +kernel, rfl, by decide +kernel, by decide +kernel⟩
def d_first_cover : He.DefD := ⟨("first_cover", none), "first_cover", "first_cover", defArgs s_first_cover, defBody s_first_cover, defScope s_first_cover, [], []⟩
abbrev s__law_purse : Stmt := top 29
abbrev N__law_purse : List Str := ["script", "at", "seed"]
theorem sc__law_purse : FnScope N__law_purse ["script", "at"] (defScope s__law_purse) := ⟨rfl, rfl, rfl, by decide +kernel, rfl, by decide +kernel, by decide +kernel⟩
def d__law_purse : He.DefD := ⟨("_law_purse", none), "_law_purse", "_law_purse", defArgs s__law_purse, defBody s__law_purse, defScope s__law_purse, [], []⟩
abbrev s__law_mixed : Stmt := top 30
abbrev N__law_mixed : List Str := ["seed", "spin", "at", "mixed"]
theorem sc__law_mixed : FnScope N__law_mixed ["seed", "spin", "at"] (defScope s__law_mixed) := ⟨rfl, rfl, rfl, by decide +kernel, rfl, by decide +kernel, by decide +kernel⟩
def d__law_mixed : He.DefD := ⟨("_law_mixed", none), "_law_mixed", "_law_mixed", defArgs s__law_mixed, defBody s__law_mixed, defScope s__law_mixed, [], []⟩
abbrev s__law_draw : Stmt := top 31
abbrev N__law_draw : List Str := ["purse", "many", "drawn", "found", "piece"]
theorem sc__law_draw : FnScope N__law_draw ["purse", "many"] (defScope s__law_draw) := ⟨rfl, rfl, rfl, by decide +kernel, rfl, by decide +kernel, by decide +kernel⟩
def d__law_draw : He.DefD := ⟨("_law_draw", none), "_law_draw", "_law_draw", defArgs s__law_draw, defBody s__law_draw, defScope s__law_draw, [], []⟩
abbrev s__law_purses : Stmt := top 32
abbrev N__law_purses : List Str := ["script", "few", "at"]
theorem sc__law_purses : FnScope N__law_purses ["script", "few"] (defScope s__law_purses) := ⟨rfl, rfl, rfl, by decide +kernel, rfl, by decide +kernel, by decide +kernel⟩
def d__law_purses : He.DefD := ⟨("_law_purses", none), "_law_purses", "_law_purses", defArgs s__law_purses, defBody s__law_purses, defScope s__law_purses, [], []⟩
abbrev s__law_one_of : Stmt := top 33
abbrev N__law_one_of : List Str := ["purse", "some"]
theorem sc__law_one_of : FnScope N__law_one_of ["purse", "some"] (defScope s__law_one_of) := ⟨rfl, rfl, rfl, by decide +kernel, rfl, by decide +kernel, by decide +kernel⟩
def d__law_one_of : He.DefD := ⟨("_law_one_of", none), "_law_one_of", "_law_one_of", defArgs s__law_one_of, defBody s__law_one_of, defScope s__law_one_of, [], []⟩
abbrev s__law_shuffled : Stmt := top 34
abbrev N__law_shuffled : List Str := ["purse", "some", "found", "item"]
theorem sc__law_shuffled : FnScope N__law_shuffled ["purse", "some"] (defScope s__law_shuffled) := ⟨rfl, rfl, rfl, by decide +kernel, rfl, by decide +kernel, by decide +kernel⟩
def d__law_shuffled : He.DefD := ⟨("_law_shuffled", none), "_law_shuffled", "_law_shuffled", defArgs s__law_shuffled, defBody s__law_shuffled, defScope s__law_shuffled, [], []⟩
abbrev s__law_pieces : Stmt := top 35
abbrev N__law_pieces : List Str := ["hour", "minute", "found", "step"]
theorem sc__law_pieces : FnScope N__law_pieces ["hour"] (defScope s__law_pieces) := ⟨rfl, rfl, rfl, by decide +kernel, rfl, by decide +kernel, by decide +kernel⟩
def d__law_pieces : He.DefD := ⟨("_law_pieces", none), "_law_pieces", "_law_pieces", defArgs s__law_pieces, defBody s__law_pieces, defScope s__law_pieces, [], []⟩
abbrev s__law_shortest : Stmt := top 36
abbrev N__law_shortest : List Str := ["hour", "minutes", "at", "minute", "pieces", "spots", "word", "good", "rows", "whole", "size", "here", "lot", "ahead", "text"]
theorem sc__law_shortest : FnScope N__law_shortest ["hour", "minutes"] (defScope s__law_shortest) := ⟨rfl, rfl, rfl, by decide +kernel, rfl, by decide +kernel, by decide +kernel⟩
def d__law_shortest : He.DefD := ⟨("_law_shortest", none), "_law_shortest", "_law_shortest", defArgs s__law_shortest, defBody s__law_shortest, defScope s__law_shortest, [], []⟩
abbrev s__law_one_right : Stmt := top 37
abbrev N__law_one_right : List Str := ["hour", "minutes", "due", "plain"]
theorem sc__law_one_right : FnScope N__law_one_right ["hour", "minutes"] (defScope s__law_one_right) := ⟨rfl, rfl, rfl, by decide +kernel, rfl, by decide +kernel, by decide +kernel⟩
def d__law_one_right : He.DefD := ⟨("_law_one_right", none), "_law_one_right", "_law_one_right", defArgs s__law_one_right, defBody s__law_one_right, defScope s__law_one_right, [], []⟩
abbrev s__law_all_right : Stmt := top 38
abbrev N__law_all_right : List Str := ["hour", "lots", "minute", "lot"]
theorem sc__law_all_right : FnScope N__law_all_right ["hour"] (defScope s__law_all_right) := ⟨rfl, rfl, rfl, by decide +kernel, rfl, by decide +kernel, by decide +kernel⟩
def d__law_all_right : He.DefD := ⟨("_law_all_right", none), "_law_all_right", "_law_all_right", defArgs s__law_all_right, defBody s__law_all_right, defScope s__law_all_right, [], []⟩
abbrev s__law_right : Stmt := top 39
abbrev N__law_right : List Str := ["purse", "hour", "pieces", "minutes", "word", "steps", "turn", "minute", "text", "more", "words"]
theorem sc__law_right : FnScope N__law_right ["purse", "hour"] (defScope s__law_right) := ⟨rfl, rfl, rfl, by decide +kernel, rfl, by decide +kernel, by decide +kernel⟩
def d__law_right : He.DefD := ⟨("_law_right", none), "_law_right", "_law_right", defArgs s__law_right, defBody s__law_right, defScope s__law_right, [], []⟩
abbrev s_law : Stmt := top 40
abbrev N_law : List Str := ["script", "hour", "purse", "spin"]
theorem sc_law : FnScope N_law ["script"] (defScope s_law) := ⟨rfl, rfl, rfl, by decide +kernel, rfl, by decide +kernel, by decide +kernel⟩
def d_law : He.DefD := ⟨("law", none), "law", "law", defArgs s_law, defBody s_law, defScope s_law, [], []⟩
def fn : List He.DefD := [d_is_whole, d_is_count, d_check_hour, d_told_count, d_steps_by, d_words_by, d_piece_told, d_can_begin, d_check_minute_text, d_read_minutes, d_check_minutes_told, d_plain_minutes, d_useful_pieces, d_bits_of, d_cheapest_covers, d_shortest_minutes, d_first_cover, d__law_purse, d__law_mixed, d__law_draw, d__law_purses, d__law_one_of, d__law_shuffled, d__law_pieces, d__law_shortest, d__law_one_right, d__law_all_right, d__law_right, d_law]
def fa : List He.Fa := [.glo "is_whole", .glo "is_count", .glo "check_hour", .glo "told_count", .glo "steps_by", .glo "words_by", .glo "piece_told", .glo "can_begin", .glo "check_minute_text", .glo "read_minutes", .glo "check_minutes_told", .glo "plain_minutes", .glo "useful_pieces", .glo "bits_of", .glo "cheapest_covers", .glo "shortest_minutes", .glo "first_cover", .glo "_law_purse", .glo "_law_mixed", .glo "_law_draw", .glo "_law_purses", .glo "_law_one_of", .glo "_law_shuffled", .glo "_law_pieces", .glo "_law_shortest", .glo "_law_one_right", .glo "_law_all_right", .glo "_law_right", .glo "law", .free "all", .free "any", .free "bool", .free "dict", .free "enumerate", .free "int", .free "isinstance", .free "len", .free "list", .free "max", .free "min", .free "range", .free "set", .free "sorted", .free "str", .free "sum", .free "zip"]
structure Tx (K : PySem.W.Frag) (mg : Str → Option Value) : Prop where
  ex : ∃ h : Heap, K.In h ∧ h.Ns mainGlobals mg ∧ He.SaysD fa fn K
section
variable {K : PySem.W.Frag} {mg : Str → Option Value}
theorem Tx.m_all (T : Tx K mg) : mg "all" = none := let ⟨_, X, G, c⟩ := T.ex; He.free_ok X G (c.fact 29 (f := .free "all") rfl)
theorem Tx.m_any (T : Tx K mg) : mg "any" = none := let ⟨_, X, G, c⟩ := T.ex; He.free_ok X G (c.fact 30 (f := .free "any") rfl)
theorem Tx.m_bool (T : Tx K mg) : mg "bool" = none := let ⟨_, X, G, c⟩ := T.ex; He.free_ok X G (c.fact 31 (f := .free "bool") rfl)
theorem Tx.m_dict (T : Tx K mg) : mg "dict" = none := let ⟨_, X, G, c⟩ := T.ex; He.free_ok X G (c.fact 32 (f := .free "dict") rfl)
theorem Tx.m_enumerate (T : Tx K mg) : mg "enumerate" = none := let ⟨_, X, G, c⟩ := T.ex; He.free_ok X G (c.fact 33 (f := .free "enumerate") rfl)
theorem Tx.m_int (T : Tx K mg) : mg "int" = none := let ⟨_, X, G, c⟩ := T.ex; He.free_ok X G (c.fact 34 (f := .free "int") rfl)
theorem Tx.m_isinstance (T : Tx K mg) : mg "isinstance" = none := let ⟨_, X, G, c⟩ := T.ex; He.free_ok X G (c.fact 35 (f := .free "isinstance") rfl)
theorem Tx.m_len (T : Tx K mg) : mg "len" = none := let ⟨_, X, G, c⟩ := T.ex; He.free_ok X G (c.fact 36 (f := .free "len") rfl)
theorem Tx.m_list (T : Tx K mg) : mg "list" = none := let ⟨_, X, G, c⟩ := T.ex; He.free_ok X G (c.fact 37 (f := .free "list") rfl)
theorem Tx.m_max (T : Tx K mg) : mg "max" = none := let ⟨_, X, G, c⟩ := T.ex; He.free_ok X G (c.fact 38 (f := .free "max") rfl)
theorem Tx.m_min (T : Tx K mg) : mg "min" = none := let ⟨_, X, G, c⟩ := T.ex; He.free_ok X G (c.fact 39 (f := .free "min") rfl)
theorem Tx.m_range (T : Tx K mg) : mg "range" = none := let ⟨_, X, G, c⟩ := T.ex; He.free_ok X G (c.fact 40 (f := .free "range") rfl)
theorem Tx.m_set (T : Tx K mg) : mg "set" = none := let ⟨_, X, G, c⟩ := T.ex; He.free_ok X G (c.fact 41 (f := .free "set") rfl)
theorem Tx.m_sorted (T : Tx K mg) : mg "sorted" = none := let ⟨_, X, G, c⟩ := T.ex; He.free_ok X G (c.fact 42 (f := .free "sorted") rfl)
theorem Tx.m_str (T : Tx K mg) : mg "str" = none := let ⟨_, X, G, c⟩ := T.ex; He.free_ok X G (c.fact 43 (f := .free "str") rfl)
theorem Tx.m_sum (T : Tx K mg) : mg "sum" = none := let ⟨_, X, G, c⟩ := T.ex; He.free_ok X G (c.fact 44 (f := .free "sum") rfl)
theorem Tx.m_zip (T : Tx K mg) : mg "zip" = none := let ⟨_, X, G, c⟩ := T.ex; He.free_ok X G (c.fact 45 (f := .free "zip") rfl)
theorem Tx.t_is_whole (T : Tx K mg) : Std K mg d_is_whole := let ⟨_, X, G, c⟩ := T.ex; std_of X G c 0 0 rfl rfl rfl
theorem Tx.t_is_count (T : Tx K mg) : Std K mg d_is_count := let ⟨_, X, G, c⟩ := T.ex; std_of X G c 1 1 rfl rfl rfl
theorem Tx.t_check_hour (T : Tx K mg) : Std K mg d_check_hour := let ⟨_, X, G, c⟩ := T.ex; std_of X G c 2 2 rfl rfl rfl
theorem Tx.t_told_count (T : Tx K mg) : Std K mg d_told_count := let ⟨_, X, G, c⟩ := T.ex; std_of X G c 3 3 rfl rfl rfl
theorem Tx.t_steps_by (T : Tx K mg) : Std K mg d_steps_by := let ⟨_, X, G, c⟩ := T.ex; std_of X G c 4 4 rfl rfl rfl
theorem Tx.t_words_by (T : Tx K mg) : Std K mg d_words_by := let ⟨_, X, G, c⟩ := T.ex; std_of X G c 5 5 rfl rfl rfl
theorem Tx.t_piece_told (T : Tx K mg) : Std K mg d_piece_told := let ⟨_, X, G, c⟩ := T.ex; std_of X G c 6 6 rfl rfl rfl
theorem Tx.t_can_begin (T : Tx K mg) : Std K mg d_can_begin := let ⟨_, X, G, c⟩ := T.ex; std_of X G c 7 7 rfl rfl rfl
theorem Tx.t_check_minute_text (T : Tx K mg) : Std K mg d_check_minute_text := let ⟨_, X, G, c⟩ := T.ex; std_of X G c 8 8 rfl rfl rfl
theorem Tx.t_read_minutes (T : Tx K mg) : Std K mg d_read_minutes := let ⟨_, X, G, c⟩ := T.ex; std_of X G c 9 9 rfl rfl rfl
theorem Tx.t_check_minutes_told (T : Tx K mg) : Std K mg d_check_minutes_told := let ⟨_, X, G, c⟩ := T.ex; std_of X G c 10 10 rfl rfl rfl
theorem Tx.t_plain_minutes (T : Tx K mg) : Std K mg d_plain_minutes := let ⟨_, X, G, c⟩ := T.ex; std_of X G c 11 11 rfl rfl rfl
theorem Tx.t_useful_pieces (T : Tx K mg) : Std K mg d_useful_pieces := let ⟨_, X, G, c⟩ := T.ex; std_of X G c 12 12 rfl rfl rfl
theorem Tx.t_bits_of (T : Tx K mg) : Std K mg d_bits_of := let ⟨_, X, G, c⟩ := T.ex; std_of X G c 13 13 rfl rfl rfl
theorem Tx.t_cheapest_covers (T : Tx K mg) : Std K mg d_cheapest_covers := let ⟨_, X, G, c⟩ := T.ex; std_of X G c 14 14 rfl rfl rfl
theorem Tx.t_shortest_minutes (T : Tx K mg) : Std K mg d_shortest_minutes := let ⟨_, X, G, c⟩ := T.ex; std_of X G c 15 15 rfl rfl rfl
theorem Tx.t_first_cover (T : Tx K mg) : Std K mg d_first_cover := let ⟨_, X, G, c⟩ := T.ex; std_of X G c 16 16 rfl rfl rfl
theorem Tx.t__law_purse (T : Tx K mg) : Std K mg d__law_purse := let ⟨_, X, G, c⟩ := T.ex; std_of X G c 17 17 rfl rfl rfl
theorem Tx.t__law_mixed (T : Tx K mg) : Std K mg d__law_mixed := let ⟨_, X, G, c⟩ := T.ex; std_of X G c 18 18 rfl rfl rfl
theorem Tx.t__law_draw (T : Tx K mg) : Std K mg d__law_draw := let ⟨_, X, G, c⟩ := T.ex; std_of X G c 19 19 rfl rfl rfl
theorem Tx.t__law_purses (T : Tx K mg) : Std K mg d__law_purses := let ⟨_, X, G, c⟩ := T.ex; std_of X G c 20 20 rfl rfl rfl
theorem Tx.t__law_one_of (T : Tx K mg) : Std K mg d__law_one_of := let ⟨_, X, G, c⟩ := T.ex; std_of X G c 21 21 rfl rfl rfl
theorem Tx.t__law_shuffled (T : Tx K mg) : Std K mg d__law_shuffled := let ⟨_, X, G, c⟩ := T.ex; std_of X G c 22 22 rfl rfl rfl
theorem Tx.t__law_pieces (T : Tx K mg) : Std K mg d__law_pieces := let ⟨_, X, G, c⟩ := T.ex; std_of X G c 23 23 rfl rfl rfl
theorem Tx.t__law_shortest (T : Tx K mg) : Std K mg d__law_shortest := let ⟨_, X, G, c⟩ := T.ex; std_of X G c 24 24 rfl rfl rfl
theorem Tx.t__law_one_right (T : Tx K mg) : Std K mg d__law_one_right := let ⟨_, X, G, c⟩ := T.ex; std_of X G c 25 25 rfl rfl rfl
theorem Tx.t__law_all_right (T : Tx K mg) : Std K mg d__law_all_right := let ⟨_, X, G, c⟩ := T.ex; std_of X G c 26 26 rfl rfl rfl
theorem Tx.t__law_right (T : Tx K mg) : Std K mg d__law_right := let ⟨_, X, G, c⟩ := T.ex; std_of X G c 27 27 rfl rfl rfl
theorem Tx.t_law (T : Tx K mg) : Std K mg d_law := let ⟨_, X, G, c⟩ := T.ex; std_of X G c 28 28 rfl rfl rfl
end
end K90
set_option maxHeartbeats 4000000
namespace K90
open PySem PySem.Spec PyProof.Rows L2 SX Ly
open Rep
/-! ### plain functions -/
def isDig (c : Nat) : Bool := decide (48 ≤ c) && decide (c ≤ 57)
def numText (l : List Nat) : Bool := !l.isEmpty && l.all isDig && (!decide (l[0]? = some 48) || decide (l = [48]))
def toldCount (x : Str) : Option Int := if numText x.cps.toList = true then some ((NumText.digitsVal x.cps.toList : Nat) : Int) else none
def stepsBy (hour : Int) : List Int := (ups 1 (hour - 1).toNat).filter fun s => decide (hour % s = 0)
section
variable {P : Program} {w : World} {K : PySem.W.Frag} {mg : Str → Option Value} {base : Heap}
theorem ok_is_whole (T : Tx K mg) : Cal P w K mg base 1 "is_whole" (Sp1 (fun _ : Int => True) fun _ => true) [] := by
  refine cal_of T.t_is_whole sc_is_whole (fun _ _ _ _ _ _ us hl => match us, hl with | [_], _ => rfl) Sp1.len (fun cdv A outer s H vs Q E hr h => ?_)
  have nd := sc_is_whole.nd
  have hu := hu_of hr
  refine ⟨_, PSs.nox (pss_one (ps_ret (pe_and (pe_callB (call_isi) (by rfl) (T.m_isinstance) (by decide +kernel) (pa_cons (pv 0) (pa_cons (pe_bltn (v := .ty "int") (by rfl) (T.m_int) (by decide +kernel) rfl) pa_nil))) (pe_one (pe_not (pe_callB (call_isi) (by rfl) (T.m_isinstance) (by decide +kernel) (pa_cons (pv 0) (pa_cons (pe_bltn (v := .ty "bool") (by rfl) (T.m_bool) (by decide +kernel) rfl) pa_nil)))))))), ?_⟩
  obtain ⟨F, v, a, rfl, s, r, hp, q⟩ := h
  exact st_ret s (ev_andV (ev_isi (b := true) (by decide +kernel) (ev_var rfl r)) fun _ => ev_notV (ev_isi (b := false) (by decide +kernel) (ev_var rfl r))) q
theorem bd_is_count (T : Tx K mg) (cdv : Value) (A : Around) (outer : List Env) (s : Shared) (H : Hp) (vs : List V) (Q : VK) (E : XK) (hr : Room 1 (A.deeper (envOfC d_is_count.qual d_is_count.scope s.heap.objs.size (He.fAd K d_is_count.at_) cdv)))
    (h : Sp2 (fun _ _ : Int => True) (fun a b => decide (max b 0 ≤ a)) vs H Q E) : ∃ t, PSs (cxOf CX0 P w K mg base N_is_count d_is_count.qual d_is_count.scope (He.fAd K d_is_count.at_) cdv A outer s H E) d_is_count.body t ∧ t { nx := fun _ H' => Q .non H', rt := Q } (start N_is_count vs) H := by
  have c_is_whole := ok_is_whole (P := P) (w := w) (base := base) T
  have nd := sc_is_count.nd
  refine ⟨_, PSs.nox (pss_one (ps_ret (pe_and (pe_c c_is_whole hr (by decide) (by rfl) (pa_cons (pv 0) pa_nil)) (pe_one (pe_cmpR (o_ge) (pv 0) (pe_callB (o_max2 rfl) (by rfl) (T.m_max) (by decide +kernel) (pa_cons (pv 1) (pa_cons pe_int pa_nil))) (nomark _)))))), ?_⟩
  obtain ⟨F, v, w, a, b, rfl, s, r, r2, hp, q⟩ := h
  refine st_ret s ((ev_andV (ev_call1 trivial (ev_var rfl r)) fun _ => ev_ge (ev_var rfl r) (ev_max2 (ev_var rfl r2) ev_i)).is ?_) q
  rw [Bool.true_and]
  congr 1
  apply propext
  split <;> omega
theorem ok_is_count (T : Tx K mg) : Cal P w K mg base 2 "is_count" (Sp2 (fun _ _ : Int => True) fun a b => decide (max b 0 ≤ a)) [] :=
  cal_ofd T.t_is_count sc_is_count 2 (j := 1) Sp2.len (bd_is_count T) rfl (by decide) (fun _ _ _ _ _ _ _ us its h1 h2 => match us, its, h1, h2 with | [_, _], [_], _, _ => ⟨_, rfl, rfl⟩)
theorem ok_is_count_1 (T : Tx K mg) : Cal P w K mg base 2 "is_count" (Sp2 (fun _ _ : Int => True) fun a b => decide (max b 0 ≤ a)) [.int 0] :=
  cal_ofd T.t_is_count sc_is_count 1 (j := 0) Sp2.len (bd_is_count T) rfl (by decide) (fun _ _ _ _ _ _ _ us its h1 h2 => match us, its, h1, h2 with | [_], [_], _, _ => ⟨_, rfl, rfl⟩)
theorem ok_check_hour (T : Tx K mg) : Cal P w K mg base 3 "check_hour" (Sp1 (fun a : Int => 2 ≤ a) fun _ => ()) [] := by
  have c_is_count := ok_is_count (P := P) (w := w) (base := base) T
  refine cal_of T.t_check_hour sc_check_hour (fun _ _ _ _ _ _ us hl => match us, hl with | [_], _ => rfl) Sp1.len (fun cdv A outer s H vs Q E hr h => ?_)
  have nd := sc_check_hour.nd
  have hu := hu_of hr
  refine ⟨_, PSs.nox (pss_one (ps_if (pt_not (pt_val (pe_c c_is_count hr (by decide) (by rfl) (pa_cons (pv 0) (pa_cons pe_int pa_nil)))))
    (pss_one ps_never)
    pss_nil)), ?_⟩
  obtain ⟨F, v, a, rfl, s, r, hp, q⟩ := h
  refine st_if s (et_not (et_B (ev_call2 trivial (ev_var rfl r) ev_i))) (fun e => ?_) fun _ F1 H1 g => q _ F1 H1 g rfl
  simp at e
  omega
theorem sg_le (a b : Nat) : (!decide ((⟨#[b]⟩ : Str).cps.toList < (⟨#[a]⟩ : Str).cps.toList)) = decide (a ≤ b) := by
  have e : ((⟨#[b]⟩ : Str).cps.toList < (⟨#[a]⟩ : Str).cps.toList) ↔ b < a := by
    show ([b] < [a]) ↔ b < a
    rw [List.cons_lt_cons_iff]
    simp
  rw [decide_eq_decide.mpr e]
  by_cases h : b < a
  · rw [decide_eq_true h, decide_eq_false (by omega)]
    rfl
  · rw [decide_eq_false h, decide_eq_true (by omega)]
    rfl
theorem str_eq {x : Str} {l : List Nat} : decide (x = S l) = decide (x.cps.toList = l) := by
  refine decide_eq_decide.mpr ⟨fun e => by rw [e], fun e => by rw [← S_tl x, e]⟩
theorem of_str (z : String) (l : List Nat) (h : (Str.ofString z).cps.toList = l) : Str.ofString z = S l := by rw [← h, S_tl]
theorem sgs_all (x : Str) (f : Str → Bool) : ((sgs x).map f).all id = x.cps.toList.all fun c => f ⟨#[c]⟩ := by
  unfold sgs
  rw [List.map_map, List.all_map]
  rfl
theorem numText_bool (l : List Nat) (b : Bool) (hb : b = l.all isDig) : (decide (l = []) || (!b || (decide ([l.headD 0] = [48]) && !decide (l = [48])))) = !numText l := by
  subst hb
  unfold numText
  cases l with
  | nil => rfl
  | cons c r =>
    have e1 : decide (c :: r = []) = false := rfl
    have e2 : (c :: r).isEmpty = false := rfl
    have e3 : decide ([(c :: r).headD 0] = [48]) = decide ((c :: r)[0]? = some 48) := by
      refine decide_eq_decide.mpr ?_
      simp
    rw [e1, e2, e3, Bool.false_or, Bool.not_false, Bool.true_and, Bool.not_and, Bool.not_or, Bool.not_not]
theorem ok_told_count (T : Tx K mg) : Cal P w K mg base 1 "told_count" (Sp1 (fun x : Str => x.length ≤ 640) toldCount) [] := by
  refine cal_of T.t_told_count sc_told_count (fun _ _ _ _ _ _ us hl => match us, hl with | [_], _ => rfl) Sp1.len (fun cdv A outer s H vs Q E hr h => ?_)
  have nd := sc_told_count.nd
  have hu := hu_of hr
  refine ⟨_, PSs.nox (pss_cons (ps_if (PW.pt (pw_or (pt_cmpR (op_eq) (pv 0) pe_str (nomark _)) (pw_or (pt_not (pt_val (pe_callB (show CallR _ _ (rAll K) from cr_all rfl) (by rfl) (T.m_all) (by decide +kernel) (pa_cons (pe_lc (own := [("sign", 1)]) rfl nd (pi_str (pv 0)) (blkOk_by (N := N_told_count) (sc := (defScope s_told_count)) (by decide +kernel)) (fun _ _ _ _ _ => (pg_name (i := 1) nd rfl (by first | exact Or.inl rfl | exact Or.inr rfl))) (fun _ _ _ _ _ => pts_nil) (fun _ _ _ _ _ => (pe_chain (o_les) (o_les) pe_str (pv 1) pe_str))) pa_nil)))) (pw_or1 (PW.pt (pw_and (pt_cmpR (op_eq) (pe_ix ix_str (pv 0) pe_int (fun _ _ => rfl)) pe_str (nomark _)) (pw_and1 (pt_cmpR (op_ne) (pv 0) pe_str (nomark _)))))))))
    (pss_one (ps_ret pe_non))
    pss_nil)
    (pss_one (ps_ret (pe_callTy (o_ints) (by rfl) (T.m_int) (by decide +kernel) (pa_cons (pv 0) pa_nil))))), ?_⟩
  obtain ⟨F, v, x, rfl, s, r, hp, q⟩ := h
  have hz : x.length ≤ sizeLine := Nat.le_trans hp (by decide)
  have hz2 : (sgs x).length ≤ sizeLine := by rw [sgs_len]; exact hz
  have q1 : Str.ofString "" = S [] := of_str _ _ rfl
  have q2 : Str.ofString "0" = S [48] := of_str _ _ rfl
  refine st_if (b := !numText x.cps.toList) s ((et_or (et_test (ev_eqS (ev_var rfl r) ev_s)) fun e1 => et_or (et_not (et_B (ev_all (ev_map (f := fun z : Str => (!decide (z.cps.toList < [48])) && (!decide ([57] < z.cps.toList))) (ei_str (ev_var rfl r)) hz2 (fun _ => rfl) (fun j z e F1 H1 y g1 ry =>
    ev_chain rd_leS (fun _ => rd_leS) ev_s (ev_var rfl ry) fun _ => ev_s))))) fun e2 => et_and (et_test (ev_eqS (ev_ixS (n := 0) (m := x.cps.toList.headD 0) hz (ev_var rfl r) ev_i ?_) ev_s)) fun _ => et_test (ev_neS (ev_var rfl r) ev_s)).is ?_) (fun e F1 H1 g => ?_) fun e F1 H1 g => ?_
  · rw [q1, str_eq] at e1
    have e1 := of_decide_eq_false e1
    cases e : x.cps.toList with
    | nil => exact absurd e e1
    | cons c r => rfl
  · rw [q1, q2, str_eq, str_eq, str_eq]
    refine numText_bool x.cps.toList _ ?_
    rw [sgs_all]
    congr 1
    funext c
    have h1 := sg_le 48 c
    have h2 := sg_le c 57
    unfold isDig
    rw [← h1, ← h2]
  · refine st_ret (a := (none : Option Int)) g.sub ev_n fun v F2 H2 g2 r2 => q v F2 H2 (g.trans g2) ?_
    unfold toldCount
    rw [if_neg (by rw [Bool.not_eq_true'] at e; rw [e]; exact Bool.false_ne_true)]
    exact r2
  · have e : numText x.cps.toList = true := by simpa using e
    refine st_ret g.sub (ev_ints (i := ((NumText.digitsVal x.cps.toList : Nat) : Int)) ?_ hp (ev_var rfl (Rep.mono g.fr r))) fun v F2 H2 g2 r2 => q v F2 H2 (g.trans g2) ?_
    · have e2 := e
      unfold numText at e2
      rw [Bool.and_eq_true, Bool.and_eq_true] at e2
      have h := int_S (a := x.cps.toList) e2.1.2 (by simpa using e2.1.1) (by rw [Array.length_toList]; exact Nat.le_trans hp (by decide))
      rw [S_tl] at h
      exact h
    · unfold toldCount
      rw [if_pos e]
      exact r2
/-- the steps of an hour -/
theorem ok_steps_by (T : Tx K mg) : Cal P w K mg base 1 "steps_by" (Sp1 (fun hour : Int => 2 ≤ hour ∧ hour ≤ 1000000) stepsBy) [] := by
  refine cal_of T.t_steps_by sc_steps_by (fun _ _ _ _ _ _ us hl => match us, hl with | [_], _ => rfl) Sp1.len (fun cdv A outer s H vs Q E hr h => ?_)
  have nd := sc_steps_by.nd
  have hu := hu_of hr
  refine ⟨_, PSs.nox (pss_one (ps_ret (pe_lc (own := [("step", 1)]) rfl nd (pi_range2 (by rfl) (T.m_range) (pa_cons pe_int (pa_cons (pv 0) pa_nil))) (blkOk_by (N := N_steps_by) (sc := (defScope s_steps_by)) (by decide +kernel)) (fun _ _ _ _ _ => (pg_name (i := 1) nd rfl (by first | exact Or.inl rfl | exact Or.inr rfl))) (fun _ _ _ _ _ => pts_one (pt_cmpR (op_eq) (pe_op o_mod (pv 0) (pv 1)) pe_int (nomark _))) (fun _ _ _ _ _ => (pv 1))))), ?_⟩
  obtain ⟨F, v, hour, rfl, s, r, ⟨hp, hp2⟩, q⟩ := h
  refine st_ret s ((ev_filter (p := fun s => decide (hour % s = 0)) (f := fun s => s) (ei_range2 (by decide) (by omega) ev_i (ev_var rfl r)) ?_ (fun _ => rfl) fun j z e F1 H1 y g1 ry => ⟨et_test (ev_eqI (ev_mod ?_ (ev_var rfl (Rep.mono g1.fr r)) (ev_var rfl ry)) ev_i), fun _ => ev_var rfl ry⟩).is (List.map_id' _)) q
  · rw [ups_len, sizeLine_eq]
    omega
  · rw [(ups_at e).2]
    omega
end
end K90
set_option maxHeartbeats 4000000
namespace K90
open PySem PySem.Spec PyProof.Rows L2 SX Ly
open Rep
theorem small_up {i j k : Int} (h1 : 0 < k ∧ k < 1000000) (h2 : 0 ≤ i ∧ i < 1000000) (h3 : 0 ≤ j ∧ j ≤ 1000000) : Builtin.Range.small i j k = true := by
  have e1 : Builtin.Range.rangeSize i j k = if i < j then (j - i - 1) / k + 1 else 0 := by
    unfold Builtin.Range.rangeSize
    rw [if_pos h1.1]
  have b1 : 0 ≤ Builtin.Range.rangeSize i j k ∧ Builtin.Range.rangeSize i j k ≤ 1000001 := by
    rw [e1]
    split
    · have a1 : 0 ≤ (j - i - 1) / k := Int.ediv_nonneg (by omega) (by omega)
      have a2 : (j - i - 1) / k ≤ j - i - 1 := Int.ediv_le_self _ (by omega)
      omega
    · omega
  unfold Builtin.Range.small Builtin.Range.rangeFitsLong
  generalize Builtin.Range.rangeSize i j k = n at b1
  simp only [Bool.and_eq_true, Bool.or_eq_true, decide_eq_true_eq, beq_iff_eq]
  rw [if_pos h1.1]
  simp only [Bool.and_eq_true, decide_eq_true_eq]
  omega
theorem ev_listRg3 {σ : L2.St} {F H : Hp} {ta tb tc : TE} {i j k : Int} (h1 : 0 < k ∧ k < 1000000) (h2 : 0 ≤ i ∧ i < 1000000) (h3 : 0 ≤ j ∧ j ≤ 1000000) (ha : Ev ta σ F H i) (hb : Ev tb σ F H j) (hc : Ev tc σ F H k) :
    Ev (tListRg3 (tCons ta (tCons tb (tCons tc tNil)))) σ F H (rg3 i k (Builtin.Range.rangeSize i j k).toNat) := fun F1 H1 g Q q => ha F1 H1 g _ fun v F2 H2 g2 rv => hb F2 H2 (g.trans g2) _ fun w F3 H3 g3 rw' => hc F3 H3 ((g.trans g2).trans g3) _ fun z F4 H4 g4 rz => by
  cases rv
  cases rw'
  cases rz
  have le := rangeSize_toNat_le i j k
  refine ⟨i, j, k, _, rfl, ⟨by omega, by omega, ?_, rangeSize_toNat i j k⟩, ?_, fun l n => q _ _ _ (((g2.trans g3).trans g4).trans (Grow.ice g4.sub n)) (rep_lst upd_same (ints_paired _))⟩
  · exact small_up h1 h2 h3
  · refine Nat.le_trans le ?_
    omega
/-! ### the pieces of an hour: (minute, step), the step 0 where there is none -/
def numS (i : Int) : Str := (toString i : Str)
def plusS : Str := Str.ofString "+"
def wordOf (p : Int × Int) : Str := if p.2 = 0 then numS p.1 else numS p.1 ++ plusS ++ numS p.2
def toldOf (hour : Int) (p : Int × Int) : List Int := if p.2 = 0 then [p.1] else rg3 p.1 p.2 (Builtin.Range.rangeSize p.1 hour p.2).toNat
def pcs0 (hour : Int) : List (Int × Int) := (ups 0 hour.toNat).map fun m => (m, 0)
def pcs1 (step : Int) : List (Int × Int) := (ups 0 step.toNat).map fun m => (m, step)
def pcs (hour : Int) : List (Int × Int) := pcs0 hour ++ (stepsBy hour).flatMap pcs1
def wordsOf (hour : Int) (ps : List (Int × Int)) : List (Str × List Int) := ps.map fun p => (wordOf p, toldOf hour p)
theorem mem_ups {lo z : Int} {n : Nat} : z ∈ ups lo n ↔ lo ≤ z ∧ z < lo + n := by
  unfold ups
  simp only [List.mem_map, List.mem_range]
  constructor
  · rintro ⟨k, h, rfl⟩
    omega
  · rintro ⟨h1, h2⟩
    exact ⟨(z - lo).toNat, by omega, by omega⟩
theorem mem_steps {hour s : Int} : s ∈ stepsBy hour ↔ 1 ≤ s ∧ s < hour ∧ hour % s = 0 := by
  unfold stepsBy
  rw [List.mem_filter, mem_ups, decide_eq_true_eq]
  omega
theorem nd_ups (lo : Int) (n : Nat) : (ups lo n).Nodup := by
  unfold ups
  refine List.Pairwise.map _ (fun a b h => ?_) List.nodup_range
  omega
theorem nd_steps (hour : Int) : (stepsBy hour).Nodup := (nd_ups _ _).filter _
theorem nd_pcs (hour : Int) : (pcs hour).Nodup := by
  unfold pcs
  rw [List.nodup_append]
  refine ⟨?_, ?_, ?_⟩
  · exact List.Pairwise.map _ (fun a b h e => h (congrArg Prod.fst e)) (nd_ups _ _)
  · unfold List.Nodup
    rw [List.pairwise_flatMap]
    refine ⟨fun s _ => List.Pairwise.map _ (fun a b h e => h (congrArg Prod.fst e)) (nd_ups _ _), (nd_steps hour).imp fun {a b} h x hx y hy e => ?_⟩
    unfold pcs1 at hx hy
    obtain ⟨m, _, rfl⟩ := List.mem_map.mp hx
    obtain ⟨m', _, rfl⟩ := List.mem_map.mp hy
    exact h (congrArg Prod.snd e)
  · intro x hx y hy e
    unfold pcs0 at hx
    obtain ⟨m, _, rfl⟩ := List.mem_map.mp hx
    obtain ⟨s, hs, hy⟩ := List.mem_flatMap.mp hy
    unfold pcs1 at hy
    obtain ⟨m', _, rfl⟩ := List.mem_map.mp hy
    have := (mem_steps.mp hs).1
    have e2 : (0 : Int) = s := congrArg Prod.snd e
    omega
theorem mem_pcs {hour m s : Int} : (m, s) ∈ pcs hour ↔ (s = 0 ∧ 0 ≤ m ∧ m < hour) ∨ (1 ≤ s ∧ s < hour ∧ hour % s = 0 ∧ 0 ≤ m ∧ m < s) := by
  unfold pcs pcs0 pcs1
  simp only [List.mem_append, List.mem_map, List.mem_flatMap, Prod.mk.injEq, mem_ups]
  constructor
  · rintro (⟨a, h, rfl, rfl⟩ | ⟨t, ht, a, h, rfl, rfl⟩)
    · left
      omega
    · right
      have := mem_steps.mp ht
      omega
  · rintro (⟨rfl, h⟩ | ⟨h1, h2, h3, h4⟩)
    · exact .inl ⟨m, by omega, rfl, rfl⟩
    · exact .inr ⟨s, mem_steps.mpr ⟨h1, h2, h3⟩, m, by omega, rfl, rfl⟩
theorem tl_numS {i : Int} (h : 0 ≤ i) : (numS i).cps.toList = TL.numL i.toNat := by
  obtain ⟨n, rfl⟩ := Int.eq_ofNat_of_zero_le h
  exact TL.tl_num n
theorem tl_plusS : plusS.cps.toList = [43] := by decide +kernel
theorem tl_word {m s : Int} (h : 0 ≤ m) (hs : 0 ≤ s) : (wordOf (m, s)).cps.toList = if s = 0 then TL.numL m.toNat else TL.numL m.toNat ++ 43 :: TL.numL s.toNat := by
  unfold wordOf
  by_cases e : s = 0
  · rw [if_pos e, if_pos e]
    exact tl_numS h
  · rw [if_neg e, if_neg e]
    have e1 := TL.tl_append (numS m ++ plusS) (numS s)
    have e2 := TL.tl_append (numS m) plusS
    have e3 := tl_numS h
    have e4 := tl_numS hs
    have e5 := tl_plusS
    unfold TL.tl at e1 e2
    rw [e1, e2, e3, e4, e5, List.append_assoc]
    rfl
theorem app_free {a b c d : List Nat} {x : Nat} (ha : x ∉ a) (hc : x ∉ c) (e : a ++ x :: b = c ++ x :: d) : a = c ∧ b = d := by
  induction a generalizing c with
  | nil => cases c with
    | nil => exact ⟨rfl, (List.cons.inj e).2⟩
    | cons y c => exact absurd (List.cons.inj e).1 fun z => hc (z ▸ List.mem_cons_self ..)
  | cons y a ih => cases c with
    | nil => exact absurd (List.cons.inj e).1 fun z => ha (z ▸ List.mem_cons_self ..)
    | cons z c =>
      obtain ⟨e1, e2⟩ := List.cons.inj e
      obtain ⟨e3, e4⟩ := ih (fun h => ha (List.mem_cons_of_mem _ h)) (fun h => hc (List.mem_cons_of_mem _ h)) e2
      exact ⟨by rw [e1, e3], e4⟩
theorem num_inj {a b : Int} (ha : 0 ≤ a) (hb : 0 ≤ b) (e : TL.numL a.toNat = TL.numL b.toNat) : a = b := by
  have := TL.numL_inj e
  omega
theorem word_inj {m s m' s' : Int} (h1 : 0 ≤ m) (h2 : 0 ≤ s) (h3 : 0 ≤ m') (h4 : 0 ≤ s') (e : wordOf (m, s) = wordOf (m', s')) : (m, s) = (m', s') := by
  have e := congrArg (fun x : Str => x.cps.toList) e
  simp only [tl_word h1 h2, tl_word h3 h4] at e
  have free : ∀ n : Nat, 43 ∉ TL.numL n := fun n => TL.numL_free (.inl (by decide))
  by_cases c : s = 0
  · by_cases c' : s' = 0
    · rw [if_pos c, if_pos c'] at e
      rw [num_inj h1 h3 e, c, c']
    · rw [if_pos c, if_neg c'] at e
      exact absurd (e ▸ List.mem_append_right _ (List.mem_cons_self ..)) (free m.toNat)
  · by_cases c' : s' = 0
    · rw [if_neg c, if_pos c'] at e
      exact absurd (e ▸ List.mem_append_right _ (List.mem_cons_self ..)) (free m'.toNat)
    · rw [if_neg c, if_neg c'] at e
      obtain ⟨e1, e2⟩ := app_free (free _) (free _) e
      rw [num_inj h1 h3 e1, num_inj h2 h4 e2]
theorem nd_words {hour : Int} {ps : List (Int × Int)} (h : ps.Nodup) (hp : ∀ p ∈ ps, 0 ≤ p.1 ∧ 0 ≤ p.2) : ((wordsOf hour ps).map (·.1)).Nodup := by
  unfold wordsOf
  rw [List.map_map]
  show (ps.map wordOf).Nodup
  induction ps with
  | nil => exact List.nodup_nil
  | cons p ps ih =>
    rw [List.nodup_cons] at h
    rw [List.map_cons, List.nodup_cons]
    refine ⟨fun hm => ?_, ih h.2 fun q hq => hp q (List.mem_cons_of_mem _ hq)⟩
    obtain ⟨q, hq, e⟩ := List.mem_map.mp hm
    have a := hp p (List.mem_cons_self ..)
    have b := hp q (List.mem_cons_of_mem _ hq)
    have e2 : q = p := word_inj (m := q.1) (s := q.2) (m' := p.1) (s' := p.2) b.1 b.2 a.1 a.2 e
    exact h.1 (e2 ▸ hq)

theorem nn_pcs {hour : Int} {p : Int × Int} (h : p ∈ pcs hour) : 0 ≤ p.1 ∧ 0 ≤ p.2 := by
  obtain ⟨m, s⟩ := p
  have := mem_pcs.mp h
  show 0 ≤ m ∧ 0 ≤ s
  omega
theorem len_numS {i : Int} (h : 0 ≤ i ∧ i < 1000000) : (numS i).length ≤ 6 := by
  have e : (numS i).length = (TL.numL i.toNat).length := by
    rw [TL.len_tl]
    exact congrArg List.length (tl_numS h.1)
  rw [e]
  exact TL.numL_len (by decide) (by omega)
theorem log_lt {i : Int} (h : 0 ≤ i ∧ i < 1000000) : i.natAbs.log2 < 1920 := by
  have : i.natAbs.log2 < 20 := PySem.Flt.log2_lt_of (by decide) (by omega)
  omega
theorem len_app (x y : Str) : (x ++ y).length = x.length + y.length := by
  rw [TL.len_tl, TL.tl_append, List.length_append, ← TL.len_tl, ← TL.len_tl]
theorem len_plusS : plusS.length = 1 := by
  rw [TL.len_tl]
  exact congrArg List.length tl_plusS
/-- the number of pieces, bounded -/
theorem len_pcs1 (s : Int) : (pcs1 s).length = s.toNat := by unfold pcs1; rw [List.length_map, ups_len]
theorem len_pcs0 (s : Int) : (pcs0 s).length = s.toNat := by unfold pcs0; rw [List.length_map, ups_len]
theorem len_steps {hour : Int} : (stepsBy hour).length ≤ hour.toNat := by
  unfold stepsBy
  refine Nat.le_trans (List.length_filter_le _ _) ?_
  rw [ups_len]
  omega
theorem len_flat {hour : Int} : ∀ {l : List Int}, (∀ s ∈ l, s < hour) → (l.flatMap pcs1).length ≤ l.length * hour.toNat
  | [], _ => Nat.zero_le _
  | s :: l, h => by
    rw [List.flatMap_cons, List.length_append, len_pcs1, List.length_cons, Nat.add_mul]
    have a := len_flat (l := l) fun z hz => h z (List.mem_cons_of_mem _ hz)
    have b := h s (List.mem_cons_self ..)
    omega
section
variable {P : Program} {w : World} {K : PySem.W.Frag} {mg : Str → Option Value} {base : Heap}
theorem ev_word {σ : L2.St} {F H : Hp} {ta tb : TE} {m s : Int} (hm : 0 ≤ m ∧ m < 1000000) (hs : 1 ≤ s ∧ s < 1000000) (ha : Ev ta σ F H m) (hb : Ev tb σ F H s) :
    Ev (tOp rAddS2 (tOp rAddS2 (tCB rStrI (tCons ta tNil)) (tC (.str plusS))) (tCB rStrI (tCons tb tNil))) σ F H (wordOf (m, s)) := by
  have l1 := len_numS hm
  have l2 := len_numS (i := s) ⟨by omega, hs.2⟩
  have e : wordOf (m, s) = numS m ++ plusS ++ numS s := by
    unfold wordOf
    rw [if_neg (show ¬ s = 0 by omega)]
  rw [e]
  refine ev_adds ?_ (ev_adds ?_ (ev_str (log_lt hm) ha) ev_s) (ev_str (log_lt ⟨by omega, hs.2⟩) hb)
  · show (numS m ++ plusS).length + (numS s).length ≤ sizeLine
    rw [len_app, len_plusS, sizeLine_eq]
    omega
  · show (numS m).length + plusS.length ≤ sizeLine
    rw [len_plusS, sizeLine_eq]
    omega
theorem ok_words_by (T : Tx K mg) : Cal P w K mg base 2 "words_by" (Sp1 (fun hour : Int => 2 ≤ hour ∧ hour ≤ 1000) fun hour => Dct.mk (wordsOf hour (pcs hour))) [] := by
  have c_steps_by := ok_steps_by (P := P) (w := w) (base := base) T
  refine cal_of T.t_words_by sc_words_by (fun _ _ _ _ _ _ us hl => match us, hl with | [_], _ => rfl) Sp1.len (fun cdv A outer s H vs Q E hr h => ?_)
  have nd := sc_words_by.nd
  have hu := hu_of hr
  refine ⟨_, PSs.nox (pss_cons (ps_setDc (i := 2) (own := [("minute", 1)]) rfl nd rfl rfl (sw_trueD rfl rfl rfl (by decide +kernel)) (pi_range1 (by rfl) (T.m_range) (pa_cons (pv 0) pa_nil)) (blkOk_by (N := N_words_by) (sc := (defScope s_words_by)) (by decide +kernel)) (fun _ _ _ _ _ => (pg_name (i := 1) nd rfl (by first | exact Or.inl rfl | exact Or.inr rfl))) (fun _ _ _ _ _ => pts_nil) (fun _ _ _ _ _ => (pe_callTy (o_str) (by rfl) (T.m_str) (by decide +kernel) (pa_cons (pv 1) pa_nil))) (fun _ _ _ _ _ => (pe_lst (pa_cons (pv 1) pa_nil))))
    (pss_cons (ps_for PassesOwn.never rfl (show PI _ _ _ (iList K _) from (pi_list (pe_c c_steps_by hr (by decide) (by rfl) (pa_cons (pv 0) pa_nil)))) (pg_name (i := 3) nd rfl (by first | exact Or.inl rfl | exact Or.inr rfl))
    (pss_one (ps_expr (pe_bm PySem.F.plainAttrs_dict PySem.F.slot_dict_update PySem.F.type_dict_update o_update (pv 2) (pa_cons (pe_dc (own := [("minute", 1)]) rfl nd (pi_range1 (by rfl) (T.m_range) (pa_cons (pv 3) pa_nil)) (blkOk_by (N := N_words_by) (sc := (defScope s_words_by)) (by decide +kernel)) (fun _ _ _ _ _ => (pg_name (i := 1) nd rfl (by first | exact Or.inl rfl | exact Or.inr rfl))) (fun _ _ _ _ _ => pts_nil) (fun _ _ _ _ _ => (pe_op o_adds (pe_op o_adds (pe_callTy (o_str) (by rfl) (T.m_str) (by decide +kernel) (pa_cons (pv 1) pa_nil)) pe_str) (pe_callTy (o_str) (by rfl) (T.m_str) (by decide +kernel) (pa_cons (pv 3) pa_nil)))) (fun _ _ _ _ _ => (pe_listRg3 (by rfl) (by rfl) (T.m_list) (by rfl) (T.m_range) (pa_cons (pv 1) (pa_cons (pv 0) (pa_cons (pv 3) pa_nil)))))) pa_nil)))))
    (pss_one (ps_ret (pv 2))))), ?_⟩
  obtain ⟨F, v, hour, rfl, s, r, ⟨hp, hp2⟩, q⟩ := h
  refine st_asgN s (en_dmap (fk := numS) (fv := fun m => [m]) (ei_range1 (by omega) (ev_var rfl r)) ?_ ?_ (fun _ => rfl) fun j z e F1 H1 x g1 rx => ⟨ev_str (log_lt ?_) (ev_var rfl rx), ev_lst1 (ev_var rfl rx)⟩) fun p o F1 H1 g1 n f e ⟨us, eo, hp1⟩ => ?_
  · rw [ups_len, sizeLine_eq]
    omega
  · have := nd_words (hour := hour) (ps := pcs0 hour) (List.Pairwise.map _ (fun a b h e => h (congrArg Prod.fst e)) (nd_ups _ _)) (fun p hp => by
      unfold pcs0 at hp
      obtain ⟨m, hm, rfl⟩ := List.mem_map.mp hp
      have := mem_ups.mp hm
      exact ⟨by show 0 ≤ m; omega, Int.le_refl 0⟩)
    unfold wordsOf pcs0 at this
    rw [List.map_map, List.map_map] at this
    exact this
  · have := ups_at e
    omega
  · subst eo
    refine st_for (xs := stepsBy hour) g1.sub (ei_list (ev_call1 ⟨hp, by omega⟩ (ev_var rfl (Rep.mono g1.fr r)))) (fun i σ' F' H' => ∃ y us, σ' = [some v, none, some (.ref p), y] ∧ Gr F H F' H' ∧ F' p = none ∧ H' p = some (.dK us) ∧
      Paired (DRel F') us (wordsOf hour (pcs0 hour ++ ((stepsBy hour).take i).flatMap pcs1))) (fun F2 H2 g2 => ?_) (fun i z hz σ1 F2 H2 s2 ⟨y, us2, eσ, gr, f2, e2, hp2'⟩ x F3 H3 g3 rx => ?_) (fun σ1 F2 H2 s2 ⟨y, us2, eσ, gr, f2, e2, hp2'⟩ => ?_)
    · refine ⟨none, us, rfl, g1.trans g2, g2.live e f, g2.at e, ?_⟩
      rw [List.take_zero, List.flatMap_nil, List.append_nil]
      unfold wordsOf pcs0
      rw [List.map_map]
      exact L2.Paired.mapP hp1 fun _ _ z => ⟨z.1, Rep.mono g2.fr z.2⟩
    · subst eσ
      have zs := mem_steps.mp (List.mem_of_getElem? hz)
      have lw : ∀ ps : List (Int × Int), (wordsOf hour ps).length = ps.length := fun ps => by unfold wordsOf; rw [List.length_map]
      have key : (((wordsOf hour (pcs0 hour ++ ((stepsBy hour).take i).flatMap pcs1)) ++ wordsOf hour (pcs1 z)) ) = wordsOf hour (pcs0 hour ++ ((stepsBy hour).take (i + 1)).flatMap pcs1) := by
        rw [List.take_add_one, hz, List.flatMap_append]
        unfold wordsOf
        simp
      have sub : (pcs0 hour ++ ((stepsBy hour).take (i + 1)).flatMap pcs1).Sublist (pcs hour) := by
        unfold pcs
        refine List.Sublist.append_left ?_ _
        have : stepsBy hour = (stepsBy hour).take (i + 1) ++ (stepsBy hour).drop (i + 1) := (List.take_append_drop _ _).symm
        conv => rhs; rw [this]
        rw [List.flatMap_append]
        exact List.sublist_append_left _ _
      refine up_run (κ := Str) (α := List Int) (es := wordsOf hour (pcs1 z)) g3.sub rfl (g3.live e2 f2) (g3.at e2) (L2.Paired.mapP hp2' fun _ _ z => ⟨z.1, Rep.mono g3.fr z.2⟩) ?_ ?_ ?_ fun us' F4 H4 g4 f4 e4 hp4 => ?_
      · rw [lw, lw, List.length_append, len_pcs0, len_pcs1, sizeLine_eq]
        have a := len_flat (hour := hour) (l := (stepsBy hour).take i) fun z hz => (mem_steps.mp (List.mem_of_mem_take hz)).2.1
        have b : ((stepsBy hour).take i).length ≤ hour.toNat := by
          rw [List.length_take]
          exact Nat.le_trans (Nat.min_le_right _ _) len_steps
        have c : ((stepsBy hour).take i).length * hour.toNat ≤ 1000 * 1000 := Nat.mul_le_mul (by omega) (by omega)
        omega
      · rw [key]
        exact nd_words ((nd_pcs hour).sublist sub) fun p hp => nn_pcs (sub.subset hp)
      · have hd := en_dmap (σ := [some v, none, some (.ref p), some x]) (F := F3) (H := H3) (fk := fun m => wordOf (m, z)) (fv := fun m => toldOf hour (m, z)) (wi := iRng1 (tCons (tVar 3) tNil)) (vs := [1]) (i := 1)
          (tk := tOp rAddS2 (tOp rAddS2 (tCB rStrI (tCons (tVar 1) tNil)) (tC (.str plusS))) (tCB rStrI (tCons (tVar 3) tNil))) (tv := tListRg3 (tCons (tVar 1) (tCons (tVar 0) (tCons (tVar 3) tNil)))) (ei_range1 (i := z) (by omega) (ev_var rfl rx)) (by rw [ups_len, sizeLine_eq]; omega) ?_ (fun _ => rfl) (fun j m e F1 H1 x2 g1' rx2 => ?_)
        · have e : wordsOf hour (pcs1 z) = (ups 0 z.toNat).map fun m => (wordOf (m, z), toldOf hour (m, z)) := by
            unfold wordsOf pcs1
            rw [List.map_map]
            rfl
          rw [e]
          exact hd
        · have := nd_words (hour := hour) (ps := pcs1 z) (List.Pairwise.map _ (fun a b h e => h (congrArg Prod.fst e)) (nd_ups _ _)) (fun p hp => by
            unfold pcs1 at hp
            obtain ⟨m, hm, rfl⟩ := List.mem_map.mp hp
            have := mem_ups.mp hm
            exact ⟨by show 0 ≤ m; omega, by show 0 ≤ z; omega⟩)
          unfold wordsOf pcs1 at this
          rw [List.map_map, List.map_map] at this
          exact this
        · have hm := ups_at e
          have e0 : toldOf hour (m, z) = rg3 m z (Builtin.Range.rangeSize m hour z).toNat := by
            unfold toldOf
            rw [if_neg (show ¬ z = 0 by omega)]
          rw [e0]
          have rz := Rep.mono g1'.fr rx
          have rh := Rep.mono (g3.fr.trans g1'.fr) (Rep.mono gr.fr r)
          exact ⟨ev_word (by omega) (by omega) (ev_var rfl rx2) (ev_var rfl rz), ev_listRg3 (by omega) (by omega) (by omega) (ev_var rfl rx2) (ev_var rfl rh) (ev_var rfl rz)⟩
      · rw [key] at hp4
        exact ⟨F4, g3.fr.trans g4.fr, same_put g4.sub f4, _, us', rfl, (gr.trans (g3.trans g4)).put (.inl n) f4, f4, upd_same, hp4⟩
    · subst eσ
      rw [List.take_length] at hp2'
      exact st_retD rfl gr n f2 e2 hp2' q
end
end K90
set_option maxHeartbeats 4000000
namespace Ly
open PySem PySem.Spec PyProof.Rows L2 SX
open Rep
/-- dict(a list of pairs of unlike keys) -/
theorem pairs_dict {κ α : Type} [KeyT κ] [Rep κ] [KeyRep κ] [Rep α] {K : PySem.W.Frag} {F H : Hp} (s : Same F H) : ∀ {vs : List V} {ds : List (κ × α)}, Paired (rep F) vs ds →
    ∃ (ps : List Addr) (kvs : List (Key × V)), vs = ps.map V.ref ∧ Paired (fun p kv => SqT K H p [kV kv.1, kv.2]) ps kvs ∧ Paired (DRel F) kvs ds
  | _, _, .nil => ⟨[], [], rfl, .nil, .nil⟩
  | _, _, .cons (b := d) h t => by
    obtain ⟨ps, kvs, e, h1, h2⟩ := pairs_dict (K := K) s t
    obtain ⟨p, v1, v2, rfl, e1, r1, r2⟩ := h
    have ek := KeyRep.kv r1
    subst ek
    exact ⟨p :: ps, (KeyT.key d.1, v2) :: kvs, by rw [e]; rfl, .cons (st_of s e1) h1, .cons ⟨rfl, r2⟩ h2⟩
theorem en_dictp {κ α : Type} [KeyT κ] [Rep κ] [KeyRep κ] [Rep α] {K : PySem.W.Frag} {σ : L2.St} {F H : Hp} {ta : TE} {ds : List (κ × α)} (nd : (ds.map (·.1)).Nodup) (ha : Ev ta σ F H ds) : EvN (tCB (rDictP K) (tCons ta tNil)) σ F H (IsD ds) := fun F1 H1 g Q q =>
  ha F1 H1 g _ fun v F2 H2 g2 ⟨a, vs, ev, e, hp⟩ => by
    subst ev
    obtain ⟨ps, kvs, e1, h1, h2⟩ := pairs_dict (K := K) g2.sub hp
    subst e1
    refine ⟨a, ps, kvs, rfl, sq_of g2.sub e, h1, fun p n => ?_⟩
    have e2 : mergeK [] kvs = kvs := mergeK_snoc (kvs := []) (by
      rw [List.nil_append, drel_keys h2]
      exact List.Pairwise.map _ (fun a b ne e => ne (KeyT.inj e)) nd)
    rw [e2]
    have n1 : H1 p = none := by
      cases z : H1 p with
      | none => rfl
      | some o => rw [g2.same _ _ z] at n; cases n
    have f2 : F2 p = none := by
      cases z : F2 p with
      | none => rfl
      | some o => rw [g2.sub _ _ z] at n; cases n
    exact q p _ F2 _ (g2.trans (Grow.lay g2.sub n)) n1 f2 upd_same ⟨kvs, rfl, h2⟩
end Ly
namespace K90
open PySem PySem.Spec PyProof.Rows L2 SX Ly
open Rep
section
variable {P : Program} {w : World} {K : PySem.W.Frag} {mg : Str → Option Value} {base : Heap}
theorem nd0 (hour : Int) : (pcs0 hour).Nodup := List.Pairwise.map _ (fun a b h e => h (congrArg Prod.fst e)) (nd_ups _ _)
theorem nd1 (s : Int) : (pcs1 s).Nodup := List.Pairwise.map _ (fun a b h e => h (congrArg Prod.fst e)) (nd_ups _ _)
theorem nn0 {hour : Int} (p : Int × Int) (hp : p ∈ pcs0 hour) : 0 ≤ p.1 ∧ 0 ≤ p.2 := by
  unfold pcs0 at hp
  obtain ⟨m, hm, rfl⟩ := List.mem_map.mp hp
  have := mem_ups.mp hm
  exact ⟨by show 0 ≤ m; omega, Int.le_refl 0⟩
theorem nn1 {s : Int} (hs : 0 ≤ s) (p : Int × Int) (hp : p ∈ pcs1 s) : 0 ≤ p.1 ∧ 0 ≤ p.2 := by
  unfold pcs1 at hp
  obtain ⟨m, hm, rfl⟩ := List.mem_map.mp hp
  have := mem_ups.mp hm
  exact ⟨by show 0 ≤ m; omega, hs⟩
theorem words0 (hour : Int) : wordsOf hour (pcs0 hour) = (ups 0 hour.toNat).map fun m => (numS m, [m]) := by
  unfold wordsOf pcs0
  rw [List.map_map]
  rfl
theorem words1 {hour s : Int} (hs : 1 ≤ s) : wordsOf hour (pcs1 s) = (ups 0 s.toNat).map fun m => (wordOf (m, s), rg3 m s (Builtin.Range.rangeSize m hour s).toNat) := by
  unfold wordsOf pcs1
  rw [List.map_map]
  refine List.map_congr_left fun m _ => ?_
  refine Prod.ext rfl ?_
  show toldOf hour (m, s) = _
  unfold toldOf
  rw [if_neg (show ¬ s = 0 by omega)]
/-- the steps gone through so far -/
def upto (hour : Int) (i : Nat) : List (Int × Int) := pcs0 hour ++ (((ups 1 (hour - 1).toNat).take i).filter fun s => decide (hour % s = 0)).flatMap pcs1
theorem upto_sub (hour : Int) (i : Nat) : (upto hour i).Sublist (pcs hour) := by
  unfold upto pcs stepsBy
  refine List.Sublist.append_left ?_ _
  have e : ups 1 (hour - 1).toNat = (ups 1 (hour - 1).toNat).take i ++ (ups 1 (hour - 1).toNat).drop i := (List.take_append_drop _ _).symm
  conv => rhs; rw [e]
  rw [List.filter_append, List.flatMap_append]
  exact List.sublist_append_left _ _
theorem len_pcs (hour : Int) (h : 2 ≤ hour ∧ hour ≤ 1000) : (pcs hour).length ≤ 1002000 := by
  unfold pcs
  rw [List.length_append, len_pcs0]
  have a := len_flat (hour := hour) (l := stepsBy hour) fun z hz => (mem_steps.mp hz).2.1
  have c : (stepsBy hour).length * hour.toNat ≤ 1000 * 1000 := Nat.mul_le_mul (Nat.le_trans len_steps (by omega)) (by omega)
  omega
theorem ok__law_pieces (T : Tx K mg) : Cal P w K mg base 1 "_law_pieces" (Sp1 (fun hour : Int => 2 ≤ hour ∧ hour ≤ 1000) fun hour => Dct.mk (wordsOf hour (pcs hour))) [] := by
  refine cal_of T.t__law_pieces sc__law_pieces (fun _ _ _ _ _ _ us hl => match us, hl with | [_], _ => rfl) Sp1.len (fun cdv A outer s H vs Q E hr h => ?_)
  have nd := sc__law_pieces.nd
  have hu := hu_of hr
  refine ⟨_, PSs.nox (pss_cons (ps_set (i := 2) nd rfl (by first | exact Or.inl rfl | exact Or.inr rfl) (pe_callTy (o_dictp rfl) (by rfl) (T.m_dict) (by decide +kernel) (pa_cons (pe_lc (own := [("minute", 1)]) rfl nd (pi_range1 (by rfl) (T.m_range) (pa_cons (pv 0) pa_nil)) (blkOk_by (N := N__law_pieces) (sc := (defScope s__law_pieces)) (by decide +kernel)) (fun _ _ _ _ _ => (pg_name (i := 1) nd rfl (by first | exact Or.inl rfl | exact Or.inr rfl))) (fun _ _ _ _ _ => pts_nil) (fun _ _ _ _ _ => (pe_tup (pa_cons (pe_callTy (o_str) (by rfl) (T.m_str) (by decide +kernel) (pa_cons (pv 1) pa_nil)) (pa_cons (pe_lst (pa_cons (pv 1) pa_nil)) pa_nil))))) pa_nil)))
    (pss_cons (ps_for PassesOwn.never rfl (pi_range2 (by rfl) (T.m_range) (pa_cons pe_int (pa_cons (pv 0) pa_nil))) (pg_name (i := 3) nd rfl (by first | exact Or.inl rfl | exact Or.inr rfl))
    (pss_one (ps_if (pt_cmpR (op_eq) (pe_op o_mod (pe_callTy (o_int) (by rfl) (T.m_int) (by decide +kernel) (pa_cons (pv 0) pa_nil)) (pv 3)) pe_int (nomark _))
    (pss_one (ps_expr (pe_bm PySem.F.plainAttrs_dict PySem.F.slot_dict_update PySem.F.type_dict_update o_update (pv 2) (pa_cons (pe_callTy (o_dictp rfl) (by rfl) (T.m_dict) (by decide +kernel) (pa_cons (pe_lc (own := [("minute", 1)]) rfl nd (pi_range1 (by rfl) (T.m_range) (pa_cons (pv 3) pa_nil)) (blkOk_by (N := N__law_pieces) (sc := (defScope s__law_pieces)) (by decide +kernel)) (fun _ _ _ _ _ => (pg_name (i := 1) nd rfl (by first | exact Or.inl rfl | exact Or.inr rfl))) (fun _ _ _ _ _ => pts_nil) (fun _ _ _ _ _ => (pe_tup (pa_cons (pe_op o_adds (pe_op o_adds (pe_callTy (o_str) (by rfl) (T.m_str) (by decide +kernel) (pa_cons (pv 1) pa_nil)) pe_str) (pe_callTy (o_str) (by rfl) (T.m_str) (by decide +kernel) (pa_cons (pv 3) pa_nil))) (pa_cons (pe_listRg3 (by rfl) (by rfl) (T.m_list) (by rfl) (T.m_range) (pa_cons (pv 1) (pa_cons (pv 0) (pa_cons (pv 3) pa_nil)))) pa_nil))))) pa_nil)) pa_nil))))
    pss_nil)))
    (pss_one (ps_ret (pv 2))))), ?_⟩
  obtain ⟨F, v, hour, rfl, s, r, ⟨hp, hp2⟩, q⟩ := h
  have lw : ∀ ps : List (Int × Int), (wordsOf hour ps).length = ps.length := fun ps => by unfold wordsOf; rw [List.length_map]
  refine st_asgN s (en_dictp (ds := wordsOf hour (pcs0 hour)) (nd_words (nd0 hour) nn0) ((ev_map (f := fun m => (numS m, [m])) (ei_range1 (by omega) (ev_var rfl r)) ?_ (fun _ => rfl) fun j z e F1 H1 x g1 rx => ev_tup2 (ev_str (log_lt ?_) (ev_var rfl rx)) (ev_lst1 (ev_var rfl rx))).is (words0 hour).symm)) fun p o F1 H1 g1 n f e ⟨us, eo, hp1⟩ => ?_
  · rw [ups_len, sizeLine_eq]
    omega
  · have := ups_at e
    omega
  · subst eo
    refine st_for (xs := ups 1 (hour - 1).toNat) g1.sub (ei_range2 (by decide) (by omega) ev_i (ev_var rfl (Rep.mono g1.fr r))) (fun i σ' F' H' => ∃ y us, σ' = [some v, none, some (.ref p), y] ∧ Gr F H F' H' ∧ F' p = none ∧ H' p = some (.dK us) ∧
      Paired (DRel F') us (wordsOf hour (upto hour i))) (fun F2 H2 g2 => ?_) (fun i z hz σ1 F2 H2 s2 ⟨y, us2, eσ, gr, f2, e2, hp2'⟩ x F3 H3 g3 rx => ?_) (fun σ1 F2 H2 s2 ⟨y, us2, eσ, gr, f2, e2, hp2'⟩ => ?_)
    · refine ⟨none, us, rfl, g1.trans g2, g2.live e f, g2.at e, ?_⟩
      unfold upto
      rw [List.take_zero, List.filter_nil, List.flatMap_nil, List.append_nil]
      exact L2.Paired.mapP hp1 fun _ _ z => ⟨z.1, Rep.mono g2.fr z.2⟩
    · subst eσ
      have zs := ups_at hz
      refine st_if g3.sub (et_test (ev_eqI (ev_mod (by omega) (ev_int (ev_var rfl (Rep.mono (gr.fr.trans g3.fr) r))) (ev_var rfl rx)) ev_i)) (fun ec F4 H4 g4 => ?_) fun ec F4 H4 g4 => ?_
      · have hd := of_decide_eq_true ec
        have key : wordsOf hour (upto hour i) ++ wordsOf hour (pcs1 z) = wordsOf hour (upto hour (i + 1)) := by
          unfold upto
          rw [filter_snoc _ _ hz, ec, if_pos rfl, List.flatMap_append]
          unfold wordsOf
          simp
        have g5 := g3.trans g4
        refine up_run (κ := Str) (α := List Int) (es := wordsOf hour (pcs1 z)) g5.sub rfl (g5.live e2 f2) (g5.at e2) (L2.Paired.mapP hp2' fun _ _ z => ⟨z.1, Rep.mono g5.fr z.2⟩) ?_ ?_ (en_dictp (nd_words (nd1 z) (nn1 (by omega))) ?_) fun us' F6 H6 g6 f6 e6 hp6 => ?_
        · rw [lw, lw, len_pcs1, sizeLine_eq]
          have a := (upto_sub hour i).length_le
          have b := len_pcs hour ⟨hp, hp2⟩
          omega
        · rw [key]
          exact nd_words ((nd_pcs hour).sublist (upto_sub hour _)) fun p hp => nn_pcs ((upto_sub hour _).subset hp)
        · rw [words1 (by omega)]
          refine ev_map (ei_range1 (i := z) (by omega) (ev_var rfl (Rep.mono g4.fr rx))) (by rw [ups_len, sizeLine_eq]; omega) (fun _ => rfl) fun j m em F7 H7 x2 g7 rx2 => ?_
          have hm := ups_at em
          have rz := Rep.mono g7.fr (Rep.mono g4.fr rx)
          have rh := Rep.mono (gr.fr.trans (g5.fr.trans g7.fr)) r
          exact ev_tup2 (ev_word (by omega) (by omega) (ev_var rfl rx2) (ev_var rfl rz)) (ev_listRg3 (by omega) (by omega) (by omega) (ev_var rfl rx2) (ev_var rfl rh) (ev_var rfl rz))
        · rw [key] at hp6
          exact ⟨F6, g5.fr.trans g6.fr, same_put g6.sub f6, _, us', rfl, (gr.trans (g5.trans g6)).put (.inl n) f6, f6, upd_same, hp6⟩
      · have g5 := g3.trans g4
        have key : upto hour (i + 1) = upto hour i := by
          unfold upto
          rw [filter_snoc _ _ hz, ec, if_neg Bool.false_ne_true, List.append_nil]
        refine ⟨F4, g5.fr, g5.sub, _, us2, rfl, gr.trans g5, g5.live e2 f2, g5.at e2, ?_⟩
        rw [key]
        exact L2.Paired.mapP hp2' fun _ _ z => ⟨z.1, Rep.mono g5.fr z.2⟩
    · subst eσ
      refine st_retD rfl gr n f2 e2 hp2' ?_
      have e9 : upto hour (ups 1 (hour - 1).toNat).length = pcs hour := by
        unfold upto pcs stepsBy
        rw [List.take_length]
      rw [e9]
      exact q
end
end K90
set_option maxHeartbeats 4000000
namespace Ly
open PySem PySem.Spec PyProof.Rows L2 SX
theorem st_nx {D : Ends} {σ : L2.St} {H : Hp} (h : D.nx σ H) : tNext D σ H := h
theorem et_orT {σ : L2.St} {F H : Hp} {t u : TT} {k : Bool} (h : EvT t σ F H k) (e : k = true) : EvT (tOr t u) σ F H true := by
  subst e
  exact et_or (l := true) h fun z => nomatch z
theorem et_andF {σ : L2.St} {F H : Hp} {t u : TT} {k : Bool} (h : EvT t σ F H k) (e : k = false) : EvT (tAnd t u) σ F H false := by
  subst e
  exact et_and (l := true) h fun z => nomatch z
theorem ev_orT {σ : L2.St} {F H : Hp} {t u : TE} {k : Bool} (h : Ev t σ F H k) (e : k = true) : Ev (tOrV t u) σ F H true := by
  subst e
  exact ev_orV (l := true) h fun z => nomatch z
theorem ev_andF {σ : L2.St} {F H : Hp} {t u : TE} {k : Bool} (h : Ev t σ F H k) (e : k = false) : Ev (tAndV t u) σ F H false := by
  subst e
  exact ev_andV (l := true) h fun z => nomatch z
/-! ### a text cut at one sign -/
def cutAt (c : Nat) : List Nat → List (List Nat)
  | [] => [[]]
  | d :: r => if d = c then [] :: cutAt c r else match cutAt c r with
    | [] => [[d]]
    | p :: ps => (d :: p) :: ps
theorem cutAt_ne (c : Nat) : ∀ l, cutAt c l ≠ []
  | [] => by simp [cutAt]
  | d :: r => by
    unfold cutAt
    split
    · simp
    · cases e : cutAt c r with
      | nil => simp
      | cons p ps => simp
theorem spl_cut (c : Nat) : ∀ (l acc : List Nat), TL.spl [c] 0 acc l = (acc ++ (cutAt c l).headD []) :: (cutAt c l).tail
  | [], acc => by rw [TL.spl_nil]; simp [cutAt]
  | d :: r, acc => by
    by_cases h : d = c
    · subst h
      have e : TL.pre [d] (d :: r) = true := by simp [TL.pre]
      rw [TL.spl_hit e]
      show acc :: TL.spl [d] 0 [] r = _
      rw [spl_cut d r []]
      have e2 : cutAt d (d :: r) = [] :: cutAt d r := by
        show (if d = d then [] :: cutAt d r else _) = _
        rw [if_pos rfl]
      rw [e2]
      show acc :: _ = (acc ++ []) :: cutAt d r
      rw [List.append_nil, List.nil_append]
      congr 1
      cases e3 : cutAt d r with
      | nil => exact absurd e3 (cutAt_ne d r)
      | cons p ps => rfl
    · have e : TL.pre [c] (d :: r) = false := TL.pre_of_head [] r h
      rw [TL.spl_miss e, spl_cut c r (acc ++ [d])]
      cases e3 : cutAt c r with
      | nil => exact absurd e3 (cutAt_ne c r)
      | cons p ps =>
        have e2 : cutAt c (d :: r) = (d :: p) :: ps := by
          show (if d = c then [] :: cutAt c r else _) = _
          rw [if_neg h, e3]
        rw [e2]
        show (acc ++ [d] ++ p) :: ps = (acc ++ d :: p) :: ps
        rw [List.append_assoc]
        rfl
def lumps (c : Nat) (x : Str) : List Str := (cutAt c x.cps.toList).map S
theorem split_parts {c : Nat} (hc : c < 256) (x : Str) : Txt.split x (S [c]) = lumps c x := by
  have h := split_S (a := x.cps.toList) (b := [c]) (by simp) (by simp [hc])
  rw [S_tl] at h
  rw [h]
  unfold lumps
  congr 1
  rw [spl_cut]
  cases e : cutAt c x.cps.toList with
  | nil => exact absurd e (cutAt_ne c _)
  | cons p ps => simp
theorem cutAt_len (c : Nat) : ∀ (l : List Nat), ∀ p ∈ cutAt c l, p.length ≤ l.length
  | [], p, h => by simp [cutAt] at h; subst h; simp
  | d :: r, p, h => by
    have ih := cutAt_len c r
    by_cases hd : d = c
    · have e2 : cutAt c (d :: r) = [] :: cutAt c r := by
        show (if d = c then [] :: cutAt c r else _) = _
        rw [if_pos hd]
      rw [e2] at h
      rcases List.mem_cons.mp h with e | h
      · subst e; simp
      · have := ih p h
        simp
        omega
    · cases e3 : cutAt c r with
      | nil => exact absurd e3 (cutAt_ne c r)
      | cons q qs =>
        have e2 : cutAt c (d :: r) = (d :: q) :: qs := by
          show (if d = c then [] :: cutAt c r else _) = _
          rw [if_neg hd, e3]
        rw [e2] at h
        rcases List.mem_cons.mp h with e | h
        · subst e
          have := ih q (e3 ▸ List.mem_cons_self ..)
          simp
          omega
        · have := ih p (e3 ▸ List.mem_cons_of_mem _ h)
          simp
          omega
theorem cutAt_count (c : Nat) : ∀ (l : List Nat), (cutAt c l).length ≤ l.length + 1
  | [] => by simp [cutAt]
  | d :: r => by
    have ih := cutAt_count c r
    unfold cutAt
    split
    · simp
      omega
    · cases e3 : cutAt c r with
      | nil => simp
      | cons q qs =>
        rw [e3] at ih
        simp at ih ⊢
        omega
theorem cutAt_two {c : Nat} : ∀ {l : List Nat}, c ∈ l → 2 ≤ (cutAt c l).length
  | d :: r, h => by
    by_cases hd : d = c
    · have e2 : cutAt c (d :: r) = [] :: cutAt c r := by
        show (if d = c then [] :: cutAt c r else _) = _
        rw [if_pos hd]
      rw [e2, List.length_cons]
      have := List.length_pos_iff.mpr (cutAt_ne c r)
      omega
    · have ih := cutAt_two (l := r) (by
        rcases List.mem_cons.mp h with e | h
        · exact absurd e.symm hd
        · exact h)
      cases e3 : cutAt c r with
      | nil => exact absurd e3 (cutAt_ne c r)
      | cons q qs =>
        have e2 : cutAt c (d :: r) = (d :: q) :: qs := by
          show (if d = c then [] :: cutAt c r else _) = _
          rw [if_neg hd, e3]
        rw [e3] at ih
        rw [e2]
        exact ih
end Ly
namespace K90
open PySem PySem.Spec PyProof.Rows L2 SX Ly
open Rep
def part (x : Str) (i : Nat) : Str := (lumps 43 x).getD i (S [])
def pieceTold (hour : Int) (x : Str) : Option (List Int) :=
  match toldCount (part x 0) with
  | none => none
  | some m => if hour ≤ m ∨ 2 < (lumps 43 x).length then none else if (lumps 43 x).length = 1 then some [m] else
    match toldCount (part x 1) with
    | none => none
    | some s => if m < s ∧ s < hour ∧ hour % s = 0 then some (rg3 m s (Builtin.Range.rangeSize m hour s).toNat) else none
def canBegin (hour : Int) (x : Str) : Bool :=
  if 43 ∈ x.cps.toList then
    match toldCount (part x 0) with
    | none => false
    | some m => if hour ≤ m ∨ 2 < (lumps 43 x).length then false else ((stepsBy hour).filter fun s => decide (m < s)).any fun s => Txt.startswith (numS s) (part x 1)
  else decide (x = S []) || (match toldCount x with
    | none => false
    | some m => decide (m < hour))
theorem parts_at {x : Str} {i : Nat} (h : i < (lumps 43 x).length) : (lumps 43 x)[i]? = some (part x i) := by
  unfold part
  rw [List.getD_eq_getElem?_getD, List.getElem?_eq_getElem h]
  rfl
theorem parts_pos (x : Str) : 0 < (lumps 43 x).length := by
  unfold lumps
  rw [List.length_map]
  exact List.length_pos_iff.mpr (cutAt_ne _ _)
theorem part_len (x : Str) (i : Nat) : (part x i).length ≤ x.length := by
  by_cases h : i < (lumps 43 x).length
  · have e := parts_at h
    unfold lumps at e
    rw [List.getElem?_map, Option.map_eq_some_iff] at e
    obtain ⟨p, e1, e2⟩ := e
    rw [← e2, S_len]
    have := cutAt_len 43 x.cps.toList p (List.mem_of_getElem? e1)
    rw [Array.length_toList] at this
    exact this
  · unfold part
    rw [List.getD_eq_getElem?_getD, List.getElem?_eq_none (by omega)]
    exact Nat.zero_le _
theorem told_nn {x : Str} {m : Int} (h : toldCount x = some m) : 0 ≤ m := by
  unfold toldCount at h
  split at h
  · cases h
    omega
  · cases h
theorem plus_eq : Str.ofString "+" = S [43] := of_str _ _ rfl
section
variable {P : Program} {w : World} {K : PySem.W.Frag} {mg : Str → Option Value} {base : Heap}
theorem ok_piece_told (T : Tx K mg) : Cal P w K mg base 2 "piece_told" (Sp2 (fun (hour : Int) (x : Str) => (2 ≤ hour ∧ hour ≤ 1000) ∧ x.length ≤ 640) pieceTold) [] := by
  have c_told_count := ok_told_count (P := P) (w := w) (base := base) T
  refine cal_of T.t_piece_told sc_piece_told (fun _ _ _ _ _ _ us hl => match us, hl with | [_, _], _ => rfl) Sp2.len (fun cdv A outer s H vs Q E hr h => ?_)
  have nd := sc_piece_told.nd
  have hu := hu_of hr
  refine ⟨_, PSs.nox (pss_cons (ps_set (i := 2) nd rfl (by first | exact Or.inl rfl | exact Or.inr rfl) (pe_split (pv 1) pe_str))
    (pss_cons (ps_set (i := 3) nd rfl (by first | exact Or.inl rfl | exact Or.inr rfl) (pe_c c_told_count hr (by decide) (by rfl) (pa_cons (pe_ix (show IxR _ (rIxL K) from ix_list) (pv 2) pe_int (fun _ _ => rfl)) pa_nil)))
    (pss_cons (ps_if (PW.pt (pw_or (pt_cmpR (o_is) (pv 3) pe_non (nomark _)) (pw_or (pt_cmpR (o_ge) (pv 3) (pv 0) (nomark _)) (pw_or1 (pt_cmpR (o_gt) (pe_callB (show CallR _ _ (rLenL K) from o_lenl) (by rfl) (T.m_len) (by decide +kernel) (pa_cons (pv 2) pa_nil)) pe_int (nomark _))))))
    (pss_one (ps_ret pe_non))
    pss_nil)
    (pss_cons (ps_if (pt_cmpR (op_eq) (pe_callB (show CallR _ _ (rLenL K) from o_lenl) (by rfl) (T.m_len) (by decide +kernel) (pa_cons (pv 2) pa_nil)) pe_int (nomark _))
    (pss_one (ps_ret (pe_lst (pa_cons (pv 3) pa_nil))))
    pss_nil)
    (pss_cons (ps_set (i := 4) nd rfl (by first | exact Or.inl rfl | exact Or.inr rfl) (pe_c c_told_count hr (by decide) (by rfl) (pa_cons (pe_ix (show IxR _ (rIxL K) from ix_list) (pv 2) pe_int (fun _ _ => rfl)) pa_nil)))
    (pss_cons (ps_if (PW.pt (pw_or (pt_cmpR (o_is) (pv 4) pe_non (nomark _)) (pw_or (pt_not (pt_chain (o_lt) (o_lt) (pv 3) (pv 4) (pv 0))) (pw_or1 (pt_cmpR (op_ne) (pe_op o_mod (pv 0) (pv 4)) pe_int (nomark _))))))
    (pss_one (ps_ret pe_non))
    pss_nil)
    (pss_one (ps_ret (pe_listRg3 (by rfl) (by rfl) (T.m_list) (by rfl) (T.m_range) (pa_cons (pv 3) (pa_cons (pv 0) (pa_cons (pv 4) pa_nil)))))))))))), ?_⟩
  obtain ⟨F, v, w, hour, x, rfl, s, r, r2, ⟨⟨hp, hp2⟩, hx⟩, q⟩ := h
  have hsp := ev_split (ta := tVar 1) (tb := tC (.str (Str.ofString "+"))) (σ := start N_piece_told [v, w]) (F := F) (H := H) (x := x) (z := Str.ofString "+") (by decide +kernel) (by rw [sizeLine_eq]; omega) (ev_var rfl r2) ev_s
  rw [plus_eq, split_parts (by decide)] at hsp
  refine st_asg s hsp fun vp F1 H1 g1 rp => ?_
  have gp := parts_pos x
  refine st_asg g1.sub (ev_call1 (pre := fun x : Str => x.length ≤ 640) (f := toldCount) (a := part x 0) (Nat.le_trans (part_len x 0) hx) (ev_ixL (n := 0) (ev_var rfl rp) ev_i (parts_at gp))) fun vm F2 H2 g2 rm => ?_
  have rp2 := Rep.mono g2.fr rp
  have rh2 := Rep.mono (g1.fr.trans g2.fr) r
  cases hm : toldCount (part x 0) with
  | none =>
    rw [hm] at rm
    refine st_if g2.sub (et_orT (et_test (ev_is (ev_var (a := (none : Option Int)) rfl rm))) rfl) (fun _ F3 H3 g3 => ?_) fun z => nomatch z
    refine st_ret (a := (none : Option (List Int))) g3.sub ev_n fun u F4 H4 g4 r4 => q u F4 H4 (g1.trans (g2.trans (g3.trans g4))) ?_
    unfold pieceTold
    rw [hm]
    exact r4
  | some m =>
    rw [hm] at rm
    have m0 := told_nn hm
    refine st_if (b := decide (hour ≤ m) || decide (2 < ((lumps 43 x).length : Int))) g2.sub ((et_or (et_test (ev_is (ev_var (a := some m) rfl rm))) fun _ => et_or (et_test (ev_ge (ev_var (a := m) rfl rm) (ev_var rfl rh2))) fun _ => et_test (ev_gt (ev_lenL (ev_var rfl rp2)) ev_i)).is (by rfl)) (fun e F3 H3 g3 => ?_) fun e F3 H3 g3 => ?_
    · refine st_ret (a := (none : Option (List Int))) g3.sub ev_n fun u F4 H4 g4 r4 => q u F4 H4 (g1.trans (g2.trans (g3.trans g4))) ?_
      unfold pieceTold
      rw [hm]
      show rep F4 u (if hour ≤ m ∨ 2 < (lumps 43 x).length then none else _)
      rw [if_pos (by simp at e; omega)]
      exact r4
    · have ne : ¬ (hour ≤ m ∨ 2 < (lumps 43 x).length) := by simp at e; omega
      refine st_if g3.sub (et_test (ev_eqI (ev_lenL (ev_var rfl (Rep.mono g3.fr rp2))) ev_i)) (fun e2 F4 H4 g4 => ?_) fun e2 F4 H4 g4 => ?_
      · refine st_ret g4.sub (ev_lst1 (ev_var (a := m) rfl (Rep.mono (α := Option Int) (a := some m) (g3.fr.trans g4.fr) rm))) fun u F5 H5 g5 r5 => q u F5 H5 (g1.trans (g2.trans (g3.trans (g4.trans g5)))) ?_
        unfold pieceTold
        rw [hm]
        show rep F5 u (if hour ≤ m ∨ 2 < (lumps 43 x).length then none else _)
        rw [if_neg ne, if_pos (by have := of_decide_eq_true e2; omega)]
        exact r5
      · have n2 : (lumps 43 x).length = 2 := by
          have := of_decide_eq_false e2
          omega
        have fr4 := g3.fr.trans g4.fr
        refine st_asg g4.sub (ev_call1 (pre := fun x : Str => x.length ≤ 640) (f := toldCount) (a := part x 1) (Nat.le_trans (part_len x 1) hx) (ev_ixL (n := 1) (ev_var rfl (Rep.mono fr4 rp2)) ev_i (parts_at (by omega)))) fun vs F5 H5 g5 rs => ?_
        have fr5 := fr4.trans g5.fr
        have told : pieceTold hour x = match toldCount (part x 1) with
          | none => none
          | some s => if m < s ∧ s < hour ∧ hour % s = 0 then some (rg3 m s (Builtin.Range.rangeSize m hour s).toNat) else none := by
          unfold pieceTold
          rw [hm]
          show (if hour ≤ m ∨ 2 < (lumps 43 x).length then none else _) = _
          rw [if_neg ne, if_neg (by omega)]
        cases hs : toldCount (part x 1) with
        | none =>
          rw [hs] at rs
          refine st_if g5.sub (et_orT (et_test (ev_is (ev_var (a := (none : Option Int)) rfl rs))) rfl) (fun _ F6 H6 g6 => ?_) fun z => nomatch z
          refine st_ret (a := (none : Option (List Int))) g6.sub ev_n fun u F7 H7 g7 r7 => q u F7 H7 (g1.trans (g2.trans (g3.trans (g4.trans (g5.trans (g6.trans g7)))))) ?_
          rw [told, hs]
          exact r7
        | some s' =>
          rw [hs] at rs
          have rm5 : rep F5 vm m := Rep.mono (α := Option Int) (a := some m) fr5 rm
          have rh5 := Rep.mono fr5 rh2
          refine st_if (b := !(decide (m < s') && decide (s' < hour)) || !decide (hour % s' = 0)) g5.sub ((et_or (et_test (ev_is (ev_var (a := some s') rfl rs))) fun _ => et_or (et_not (et_test (ev_chain rd_lt (fun _ => rd_lt) (ev_var (a := m) rfl rm5) (ev_var (a := s') rfl rs) fun _ => ev_var rfl rh5))) fun e3 =>
            et_test (ev_neI (ev_mod ?_ (ev_var rfl rh5) (ev_var (a := s') rfl rs)) ev_i)).is (by rfl)) (fun e3 F6 H6 g6 => ?_) fun e3 F6 H6 g6 => ?_
          · simp at e3
            omega
          · refine st_ret (a := (none : Option (List Int))) g6.sub ev_n fun u F7 H7 g7 r7 => q u F7 H7 (g1.trans (g2.trans (g3.trans (g4.trans (g5.trans (g6.trans g7)))))) ?_
            rw [told, hs]
            show rep F7 u (if m < s' ∧ s' < hour ∧ hour % s' = 0 then _ else none)
            rw [if_neg (by simp at e3; omega)]
            exact r7
          · simp at e3
            refine st_ret g6.sub (ev_listRg3 (i := m) (j := hour) (k := s') (by omega) (by omega) (by omega) (ev_var rfl (Rep.mono (α := Int) g6.fr rm5)) (ev_var rfl (Rep.mono g6.fr rh5)) (ev_var rfl (Rep.mono (α := Option Int) (a := some s') g6.fr rs))) fun u F7 H7 g7 r7 => q u F7 H7 (g1.trans (g2.trans (g3.trans (g4.trans (g5.trans (g6.trans g7)))))) ?_
            rw [told, hs]
            show rep F7 u (if m < s' ∧ s' < hour ∧ hour % s' = 0 then _ else none)
            rw [if_pos (by omega)]
            exact r7
theorem ok_can_begin (T : Tx K mg) : Cal P w K mg base 2 "can_begin" (Sp2 (fun (hour : Int) (x : Str) => (2 ≤ hour ∧ hour ≤ 1000) ∧ x.length ≤ 640) canBegin) [] := by
  have c_steps_by := ok_steps_by (P := P) (w := w) (base := base) T
  have c_told_count := ok_told_count (P := P) (w := w) (base := base) T
  refine cal_of T.t_can_begin sc_can_begin (fun _ _ _ _ _ _ us hl => match us, hl with | [_, _], _ => rfl) Sp2.len (fun cdv A outer s H vs Q E hr h => ?_)
  have nd := sc_can_begin.nd
  have hu := hu_of hr
  refine ⟨_, PSs.nox (pss_cons (ps_if (pt_cmpR (o_nins) pe_str (pv 1) (by rfl))
    (pss_cons (ps_set (i := 2) nd rfl (by first | exact Or.inl rfl | exact Or.inr rfl) (pe_c c_told_count hr (by decide) (by rfl) (pa_cons (pv 1) pa_nil)))
    (pss_one (ps_ret (pe_or (pe_cmpR (op_eq) (pv 1) pe_str (nomark _)) (pe_one (pe_and (pe_cmpR (o_isnot) (pv 2) pe_non (nomark _)) (pe_one (pe_cmpR (o_lt) (pv 2) (pv 0) (nomark _)))))))))
    pss_nil)
    (pss_cons (ps_set (i := 3) nd rfl (by first | exact Or.inl rfl | exact Or.inr rfl) (pe_split (pv 1) pe_str))
    (pss_cons (ps_set (i := 2) nd rfl (by first | exact Or.inl rfl | exact Or.inr rfl) (pe_c c_told_count hr (by decide) (by rfl) (pa_cons (pe_ix (show IxR _ (rIxL K) from ix_list) (pv 3) pe_int (fun _ _ => rfl)) pa_nil)))
    (pss_cons (ps_if (PW.pt (pw_or (pt_cmpR (o_is) (pv 2) pe_non (nomark _)) (pw_or (pt_cmpR (o_ge) (pv 2) (pv 0) (nomark _)) (pw_or1 (pt_cmpR (o_gt) (pe_callB (show CallR _ _ (rLenL K) from o_lenl) (by rfl) (T.m_len) (by decide +kernel) (pa_cons (pv 3) pa_nil)) pe_int (nomark _))))))
    (pss_one (ps_ret pe_bl))
    pss_nil)
    (pss_one (ps_ret (pe_callB (show CallR _ _ (rAny K) from cr_any rfl) (by rfl) (T.m_any) (by decide +kernel) (pa_cons (pe_lc (own := [("step", 4)]) rfl nd (show PI _ _ _ (iList K _) from (pi_list (pe_c c_steps_by hr (by decide) (by rfl) (pa_cons (pv 0) pa_nil)))) (blkOk_by (N := N_can_begin) (sc := (defScope s_can_begin)) (by decide +kernel)) (fun _ _ _ _ _ => (pg_name (i := 4) nd rfl (by first | exact Or.inl rfl | exact Or.inr rfl))) (fun _ _ _ _ _ => pts_one (pt_cmpR (o_gt) (pv 4) (pv 2) (nomark _))) (fun _ _ _ _ _ => (pe_m1 PySem.F.slot_str_startswith PySem.F.type_str_startswith o_starts (pe_callTy (o_str) (by rfl) (T.m_str) (by decide +kernel) (pa_cons (pv 4) pa_nil)) (pe_ix (show IxR _ (rIxL K) from ix_list) (pv 3) pe_int (fun _ _ => rfl))))) pa_nil)))))))), ?_⟩
  obtain ⟨F, v, w, hour, x, rfl, s, r, r2, ⟨⟨hp, hp2⟩, hx⟩, q⟩ := h
  have hin : EvT (tTest (tOp (rInSg true) (tC (.str (Str.ofString "+"))) (tVar 1))) (start N_can_begin [v, w]) F H (true ^^ decide (43 ∈ x.cps.toList)) := by
    rw [plus_eq]
    exact et_test (ev_insg (n := 43) ev_s (ev_var rfl r2))
  refine st_if s hin (fun e F1 H1 g1 => ?_) fun e F1 H1 g1 => ?_
  · have n43 : 43 ∉ x.cps.toList := by simpa using e
    refine st_asg g1.sub (ev_call1 (pre := fun x : Str => x.length ≤ 640) (f := toldCount) (a := x) hx (ev_var rfl (Rep.mono g1.fr r2))) fun vm F2 H2 g2 rm => ?_
    have fr2 := g1.fr.trans g2.fr
    have told : canBegin hour x = (decide (x = S []) || (match toldCount x with | none => false | some m => decide (m < hour))) := by
      unfold canBegin
      rw [if_neg n43]
    cases hm : toldCount x with
    | none =>
      rw [hm] at rm told
      refine st_ret g2.sub ((ev_orV (ev_eqS (ev_var rfl (Rep.mono fr2 r2)) ev_s) fun _ => ev_andF (ev_isnt (ev_var (a := (none : Option Int)) rfl rm)) rfl).is ?_) fun u F3 H3 g3 r3 => q u F3 H3 (g1.trans (g2.trans g3)) r3
      rw [told]
      rfl
    | some m =>
      rw [hm] at rm told
      refine st_ret g2.sub ((ev_orV (ev_eqS (ev_var rfl (Rep.mono fr2 r2)) ev_s) fun _ => ev_andV (ev_isnt (ev_var (a := some m) rfl rm)) fun _ => ev_lt (ev_var (a := m) rfl rm) (ev_var rfl (Rep.mono fr2 r))).is ?_) fun u F3 H3 g3 r3 => q u F3 H3 (g1.trans (g2.trans g3)) r3
      rw [told]
      rfl
  · have h43 : 43 ∈ x.cps.toList := by simpa using e
    have hsp := ev_split (ta := tVar 1) (tb := tC (.str (Str.ofString "+"))) (σ := start N_can_begin [v, w]) (F := F1) (H := H1) (x := x) (z := Str.ofString "+") (by decide +kernel) (by rw [sizeLine_eq]; omega) (ev_var rfl (Rep.mono g1.fr r2)) ev_s
    rw [plus_eq, split_parts (by decide)] at hsp
    refine st_asg g1.sub hsp fun vp F2 H2 g2 rp => ?_
    have gp := parts_pos x
    refine st_asg g2.sub (ev_call1 (pre := fun x : Str => x.length ≤ 640) (f := toldCount) (a := part x 0) (Nat.le_trans (part_len x 0) hx) (ev_ixL (n := 0) (ev_var rfl rp) ev_i (parts_at gp))) fun vm F3 H3 g3 rm => ?_
    have rp2 := Rep.mono g3.fr rp
    have rh2 := Rep.mono (g1.fr.trans (g2.fr.trans g3.fr)) r
    have told : canBegin hour x = match toldCount (part x 0) with
        | none => false
        | some m => if hour ≤ m ∨ 2 < (lumps 43 x).length then false else ((stepsBy hour).filter fun s => decide (m < s)).any fun s => Txt.startswith (numS s) (part x 1) := by
      unfold canBegin
      rw [if_pos h43]
    have two : 2 ≤ (lumps 43 x).length := by
      unfold lumps
      rw [List.length_map]
      exact cutAt_two h43
    cases hm : toldCount (part x 0) with
    | none =>
      rw [hm] at rm told
      refine st_if g3.sub (et_orT (et_test (ev_is (ev_var (a := (none : Option Int)) rfl rm))) rfl) (fun _ F4 H4 g4 => ?_) fun z => nomatch z
      refine st_ret g4.sub ev_b fun u F5 H5 g5 r5 => q u F5 H5 (g1.trans (g2.trans (g3.trans (g4.trans g5)))) ?_
      rw [told]
      exact r5
    | some m =>
      rw [hm] at rm told
      have m0 := told_nn hm
      refine st_if (b := decide (hour ≤ m) || decide (2 < ((lumps 43 x).length : Int))) g3.sub ((et_or (et_test (ev_is (ev_var (a := some m) rfl rm))) fun _ => et_or (et_test (ev_ge (ev_var (a := m) rfl rm) (ev_var rfl rh2))) fun _ => et_test (ev_gt (ev_lenL (ev_var rfl rp2)) ev_i)).is (by rfl)) (fun e F4 H4 g4 => ?_) fun e F4 H4 g4 => ?_
      · refine st_ret g4.sub ev_b fun u F5 H5 g5 r5 => q u F5 H5 (g1.trans (g2.trans (g3.trans (g4.trans g5)))) ?_
        rw [told]
        show rep F5 u (if hour ≤ m ∨ 2 < (lumps 43 x).length then false else _)
        rw [if_pos (by simp at e; omega)]
        exact r5
      · have ne : ¬ (hour ≤ m ∨ 2 < (lumps 43 x).length) := by simp at e; omega
        have rm4 : rep F4 vm m := Rep.mono (α := Option Int) (a := some m) g4.fr rm
        have rp4 := Rep.mono g4.fr rp2
        unfold tNext
        dsimp only
        refine st_ret (a := canBegin hour x) g4.sub ?_ fun u F5 H5 g5 r5 => q u F5 H5 (g1.trans (g2.trans (g3.trans (g4.trans g5)))) r5
        refine Ev.is (ev_any (ev_filter (p := fun s => decide (m < s)) (f := fun s => Txt.startswith (numS s) (part x 1)) (ei_list (ev_call1 (pre := fun hour : Int => 2 ≤ hour ∧ hour ≤ 1000000) (f := stepsBy) (a := hour) ⟨hp, by omega⟩ (ev_var rfl (Rep.mono g4.fr rh2)))) ?_ (fun _ => rfl) ?_)) ?_
        · rw [sizeLine_eq]
          have := len_steps (hour := hour)
          omega
        · intro j z ez F5 H5 y g5 ry
          have := mem_steps.mp (List.mem_of_getElem? ez)
          exact ⟨et_test (ev_gt (ev_var rfl ry) (ev_var rfl (Rep.mono g5.fr rm4))), fun _ =>
            ev_starts (ev_str (log_lt (by omega)) (ev_var rfl ry)) (ev_ixL (n := 1) (ev_var rfl (Rep.mono g5.fr rp4)) ev_i (parts_at (by omega)))⟩
        · rw [told]
          show _ = (if hour ≤ m ∨ 2 < (lumps 43 x).length then false else _)
          rw [if_neg ne, List.any_map]
          rfl
end
end K90
set_option maxHeartbeats 4000000
namespace K90
open PySem PySem.Spec PyProof.Rows L2 SX Ly
/-! ### plain: told pieces -/
theorem tl_S (l : List Nat) : (S l).cps.toList = l := rfl
theorem numL_zero {n : Nat} {r : List Nat} (h : TL.numL n = 48 :: r) : n = 0 ∧ r = [] := by
  induction n using Nat.strongRecOn generalizing r with
  | _ n ih =>
    by_cases c : n < 10
    · rw [TL.numL_lt c] at h
      injection h with h1 h2
      exact ⟨by omega, h2.symm⟩
    · rw [TL.numL_step (by omega)] at h
      cases e : TL.numL (n / 10) with
      | nil => exact absurd e (TL.numL_ne _)
      | cons d q =>
        rw [e] at h
        injection h with h1 h2
        have := (ih (n / 10) (by omega) (r := q) (by rw [e, h1])).1
        omega
theorem dv_app (a b : List Nat) : NumText.digitsVal a ≤ NumText.digitsVal (a ++ b) := by
  have step : ∀ (b : List Nat) (n : Nat), n ≤ b.foldl (fun acc c => acc * 10 + (c - 48)) n := by
    intro b
    induction b with
    | nil => intro n; exact Nat.le_refl _
    | cons c r ih => intro n; exact Nat.le_trans (by omega) (ih (n * 10 + (c - 48)))
  unfold NumText.digitsVal
  rw [List.foldl_append]
  exact step b _
/-- a beginning of a number is told -/
theorem told_pre {n : Nat} {l r : List Nat} (hne : l ≠ []) (h : TL.numL n = l ++ r) : ∃ k : Nat, toldCount (S l) = some (k : Int) ∧ k ≤ n ∧ (r = [] → k = n) := by
  have dig : ∀ c ∈ l, 48 ≤ c ∧ c ≤ 57 := fun c hc => TL.numL_digits n c (by rw [h]; exact List.mem_append_left _ hc)
  have hv := TL.numL_val n
  have nt : numText l = true := by
    unfold numText
    cases l with
    | nil => exact absurd rfl hne
    | cons c q =>
      have e1 : (c :: q).all isDig = true := List.all_eq_true.mpr fun d hd => by
        have := dig d hd
        unfold isDig
        simp
        omega
      rw [e1]
      by_cases z : c = 48
      · subst z
        have := (numL_zero (n := n) (r := q ++ r) h).2
        have q0 : q = [] := (List.append_eq_nil_iff.mp this).1
        subst q0
        rfl
      · simp [z]
  refine ⟨NumText.digitsVal l, ?_, ?_, fun e => ?_⟩
  · unfold toldCount
    rw [tl_S, if_pos nt]
  · rw [h] at hv
    rw [← hv]
    exact dv_app l r
  · subst e
    rw [List.append_nil] at h
    rw [← h]
    exact hv
theorem told_num (n : Nat) : toldCount (S (TL.numL n)) = some (n : Int) := by
  obtain ⟨k, h1, _, h2⟩ := told_pre (n := n) (l := TL.numL n) (r := []) (TL.numL_ne n) (by rw [List.append_nil])
  rw [h1, h2 rfl]
theorem cutAt_free {c : Nat} : ∀ {l : List Nat}, c ∉ l → cutAt c l = [l]
  | [], _ => rfl
  | d :: r, h => by
    have e := cutAt_free (l := r) fun z => h (List.mem_cons_of_mem _ z)
    show (if d = c then [] :: cutAt c r else match cutAt c r with | [] => [[d]] | p :: ps => (d :: p) :: ps) = _
    rw [if_neg (fun z : d = c => h (z ▸ List.mem_cons_self ..)), e]
theorem cutAt_app {c : Nat} : ∀ {l r : List Nat}, c ∉ l → cutAt c (l ++ c :: r) = l :: cutAt c r
  | [], r, _ => by
    show (if c = c then [] :: cutAt c r else _) = _
    rw [if_pos rfl]
  | d :: q, r, h => by
    have e := cutAt_app (l := q) (r := r) fun z => h (List.mem_cons_of_mem _ z)
    show (if d = c then [] :: cutAt c (q ++ c :: r) else match cutAt c (q ++ c :: r) with | [] => [[d]] | p :: ps => (d :: p) :: ps) = _
    rw [if_neg (fun z : d = c => h (z ▸ List.mem_cons_self ..)), e]
theorem free43 (n : Nat) : 43 ∉ TL.numL n := TL.numL_free (.inl (by decide))
theorem free32 (n : Nat) : 32 ∉ TL.numL n := TL.numL_free (.inl (by decide))
theorem str_S {x : Str} {l : List Nat} (h : x.cps.toList = l) : x = S l := by rw [← h, S_tl]
theorem word_S {p : Int × Int} {hour : Int} (h : p ∈ pcs hour) : wordOf p = S (if p.2 = 0 then TL.numL p.1.toNat else TL.numL p.1.toNat ++ 43 :: TL.numL p.2.toNat) := by
  have := nn_pcs h
  exact str_S (tl_word (m := p.1) (s := p.2) this.1 this.2)
theorem part0 {l : List Nat} (h : 43 ∉ l) : part (S l) 0 = S l ∧ (lumps 43 (S l)).length = 1 := by
  have e : lumps 43 (S l) = [S l] := by
    unfold lumps
    rw [tl_S, cutAt_free h]
    rfl
  unfold part
  rw [e]
  exact ⟨rfl, rfl⟩
theorem part1 {a b : List Nat} (h : 43 ∉ a) (h2 : 43 ∉ b) : part (S (a ++ 43 :: b)) 0 = S a ∧ part (S (a ++ 43 :: b)) 1 = S b ∧ (lumps 43 (S (a ++ 43 :: b))).length = 2 := by
  have e : lumps 43 (S (a ++ 43 :: b)) = [S a, S b] := by
    unfold lumps
    rw [tl_S, cutAt_app h, cutAt_free h2]
    rfl
  unfold part
  rw [e]
  exact ⟨rfl, rfl, rfl⟩
theorem told_word {hour : Int} {p : Int × Int} (h : p ∈ pcs hour) : pieceTold hour (wordOf p) = some (toldOf hour p) := by
  obtain ⟨m, s⟩ := p
  have w := word_S h
  have nn : 0 ≤ m ∧ 0 ≤ s := nn_pcs h
  have hb := mem_pcs.mp h
  dsimp only at w
  rw [w]
  by_cases z : s = 0
  · subst z
    have hm : m < hour := by omega
    rw [if_pos rfl]
    obtain ⟨e1, e2⟩ := part0 (free43 m.toNat)
    unfold pieceTold
    rw [e1, e2, told_num, Int.toNat_of_nonneg nn.1]
    show (if hour ≤ m ∨ 2 < 1 then none else if (1 : Nat) = 1 then some [m] else _) = _
    rw [if_neg (by omega), if_pos rfl]
    rfl
  · rw [if_neg z]
    obtain ⟨e1, e2, e3⟩ := part1 (free43 m.toNat) (free43 s.toNat)
    unfold pieceTold
    rw [e1, e2, e3, told_num, told_num, Int.toNat_of_nonneg nn.1, Int.toNat_of_nonneg nn.2]
    show (if hour ≤ m ∨ 2 < 2 then none else if (2 : Nat) = 1 then some [m] else if m < s ∧ s < hour ∧ hour % s = 0 then _ else none) = _
    rw [if_neg (by omega), if_neg (by decide), if_pos (by omega)]
    unfold toldOf
    rw [if_neg z]
theorem begin_num {hour m : Int} {l r : List Nat} (hm : 0 ≤ m ∧ m < hour) (hne : l ≠ []) (h : TL.numL m.toNat = l ++ r) : canBegin hour (S l) = true := by
  obtain ⟨k, h1, h2, _⟩ := told_pre hne h
  have f : 43 ∉ l := fun z => free43 m.toNat (by rw [h]; exact List.mem_append_left _ z)
  unfold canBegin
  rw [tl_S, if_neg f, h1]
  have : decide ((k : Int) < hour) = true := decide_eq_true (by omega)
  show (_ || decide ((k : Int) < hour)) = true
  rw [this, Bool.or_true]
theorem starts_pre (t r : List Nat) : Txt.startswith (S (t ++ r)) (S t) = true := by
  unfold Txt.startswith
  rw [PySem.StrLaws.subAt_eq, S_len, S_len, tl_S, tl_S, List.drop_zero, List.take_left, List.length_append]
  simp
theorem begin_word {hour : Int} {p : Int × Int} {b r : List Nat} {c : Nat} (h : p ∈ pcs hour) (e : (wordOf p).cps.toList = b ++ c :: r) : canBegin hour (S (b ++ [c])) = true := by
  obtain ⟨m, s⟩ := p
  have nn : 0 ≤ m ∧ 0 ≤ s := nn_pcs h
  have hb := mem_pcs.mp h
  have w := word_S h
  dsimp only at w
  rw [w, tl_S] at e
  have hm : 0 ≤ m ∧ m < hour := by omega
  have e' : b ++ c :: r = (b ++ [c]) ++ r := by rw [List.append_assoc]; rfl
  have hne : b ++ [c] ≠ [] := by simp
  by_cases z : s = 0
  · rw [if_pos z, e'] at e
    exact begin_num hm hne e
  · rw [if_neg z, e'] at e
    rcases List.append_eq_append_iff.mp e with ⟨t, h1, h2⟩ | ⟨t, h1, h2⟩
    · cases t with
      | nil =>
        rw [List.append_nil] at h1
        exact begin_num (r := []) hm hne (by rw [List.append_nil, h1])
      | cons d t =>
        obtain ⟨h3, h4⟩ := List.cons.inj h2
        subst h3
        have h4 : TL.numL s.toNat = t ++ r := h4
        rw [h1]
        have ft : 43 ∉ t := fun z => free43 s.toNat (by rw [h4]; exact List.mem_append_left _ z)
        obtain ⟨e1, e2, e3⟩ := part1 (free43 m.toNat) ft
        unfold canBegin
        rw [tl_S, if_pos (List.mem_append_right _ (List.mem_cons_self ..)), e1, e2, e3, told_num, Int.toNat_of_nonneg nn.1]
        show (if hour ≤ m ∨ 2 < 2 then false else _) = true
        rw [if_neg (by omega), List.any_eq_true]
        refine ⟨s, List.mem_filter.mpr ⟨mem_steps.mpr (by omega), decide_eq_true (by omega)⟩, ?_⟩
        have es : numS s = S (t ++ r) := str_S (by rw [tl_numS nn.2, h4])
        rw [es]
        exact starts_pre t r
    · exact begin_num (r := t) hm hne h1
end K90
set_option maxHeartbeats 4000000
namespace K90
open PySem PySem.Spec PyProof.Rows L2 SX Ly
open Rep
/-! ### what is read of a text -/
def sinceF (b : List Nat) (c : Nat) : List Nat := if c = 32 then [] else b ++ [c]
def okRun (hour : Int) : List Nat → List Nat → Prop
  | _, [] => True
  | b, c :: r => (if c = 32 then (pieceTold hour (S b)).isNone = false else canBegin hour (S (b ++ [c])) = true) ∧ okRun hour (sinceF b c) r
theorem okRun_app {hour : Int} : ∀ {l r b : List Nat}, okRun hour b l → okRun hour (l.foldl sinceF b) r → okRun hour b (l ++ r)
  | [], _, _, _, h => h
  | _ :: _, _, _, h1, h2 => ⟨h1.1, okRun_app h1.2 h2⟩
theorem okRun_at {hour : Int} : ∀ {l b : List Nat} {i c : Nat}, okRun hour b l → l[i]? = some c → (if c = 32 then (pieceTold hour (S ((l.take i).foldl sinceF b))).isNone = false else canBegin hour (S ((l.take i).foldl sinceF b ++ [c])) = true)
  | [], _, _, _, _, e => by simp at e
  | d :: r, b, 0, c, h, e => by
    simp at e
    subst e
    exact h.1
  | d :: r, b, i + 1, c, h, e => okRun_at (l := r) (b := sinceF b d) h.2 (by simpa using e)
theorem since_free : ∀ {l b : List Nat}, 32 ∉ l → l.foldl sinceF b = b ++ l
  | [], b, _ => (List.append_nil b).symm
  | d :: r, b, h => by
    have hd : d ≠ 32 := fun e => h (e ▸ List.mem_cons_self ..)
    show r.foldl sinceF (sinceF b d) = _
    rw [since_free fun z => h (List.mem_cons_of_mem _ z)]
    unfold sinceF
    rw [if_neg hd, List.append_assoc]
    rfl
def codes (p : Int × Int) : List Nat := (wordOf p).cps.toList
theorem codes_eq {hour : Int} {p : Int × Int} (h : p ∈ pcs hour) : codes p = if p.2 = 0 then TL.numL p.1.toNat else TL.numL p.1.toNat ++ 43 :: TL.numL p.2.toNat := by
  unfold codes
  rw [word_S h, tl_S]
theorem codes_free {hour : Int} {p : Int × Int} (h : p ∈ pcs hour) : 32 ∉ codes p := by
  rw [codes_eq h]
  split
  · exact free32 _
  · intro hm
    rcases List.mem_append.mp hm with z | z
    · exact free32 _ z
    · rcases List.mem_cons.mp z with z | z
      · cases z
      · exact free32 _ z
theorem codes_ne {hour : Int} {p : Int × Int} (h : p ∈ pcs hour) : codes p ≠ [] := by
  rw [codes_eq h]
  split
  · exact TL.numL_ne _
  · simp
theorem codes_len {hour : Int} {p : Int × Int} (hh : hour ≤ 1000) (h : p ∈ pcs hour) : (codes p).length ≤ 13 := by
  have hb := mem_pcs (m := p.1) (s := p.2) |>.mp h
  have l1 : (TL.numL p.1.toNat).length ≤ 6 := TL.numL_len (by decide) (by omega)
  have l2 : (TL.numL p.2.toNat).length ≤ 6 := TL.numL_len (by decide) (by omega)
  rw [codes_eq h]
  split
  · omega
  · simp
    omega
theorem run_word {hour : Int} {p : Int × Int} (h : p ∈ pcs hour) : okRun hour [] (codes p) := by
  have key : ∀ (r b : List Nat), codes p = b ++ r → okRun hour b r := by
    intro r
    induction r with
    | nil => intro b _; trivial
    | cons c r ih =>
      intro b e
      have hc : c ≠ 32 := fun z => codes_free h (by rw [e, z]; exact List.mem_append_right _ (List.mem_cons_self ..))
      refine ⟨?_, ?_⟩
      · rw [if_neg hc]
        exact begin_word h e
      · unfold sinceF
        rw [if_neg hc]
        exact ih (b ++ [c]) (by rw [e, List.append_assoc]; rfl)
  exact key _ [] rfl
theorem told_codes {hour : Int} {p : Int × Int} (h : p ∈ pcs hour) : pieceTold hour (S (codes p)) = some (toldOf hour p) := by
  unfold codes
  rw [S_tl]
  exact told_word h
def lineOf (ps : List (Int × Int)) : List Nat := TL.joinL [32] (ps.map codes)
theorem run_line {hour : Int} : ∀ {ps : List (Int × Int)}, (∀ p ∈ ps, p ∈ pcs hour) → okRun hour [] (lineOf ps) ∧ (ps ≠ [] → (pieceTold hour (S ((lineOf ps).foldl sinceF []))).isNone = false)
  | [], _ => ⟨trivial, fun z => absurd rfl z⟩
  | [p], h => by
    have hp := h p (List.mem_cons_self ..)
    refine ⟨run_word hp, fun _ => ?_⟩
    show (pieceTold hour (S ((codes p).foldl sinceF []))).isNone = false
    rw [since_free (codes_free hp), List.nil_append, told_codes hp]
    rfl
  | p :: q :: r, h => by
    have hp := h p (List.mem_cons_self ..)
    obtain ⟨i1, i2⟩ := run_line (ps := q :: r) fun z hz => h z (List.mem_cons_of_mem _ hz)
    have e : lineOf (p :: q :: r) = codes p ++ (32 :: lineOf (q :: r)) := rfl
    have sw : (codes p).foldl sinceF [] = codes p := by rw [since_free (codes_free hp), List.nil_append]
    rw [e]
    refine ⟨okRun_app (run_word hp) ?_, fun _ => ?_⟩
    · rw [sw]
      refine ⟨?_, i1⟩
      rw [if_pos rfl, told_codes hp]
      rfl
    · rw [List.foldl_append, sw]
      exact i2 (by simp)
theorem line_nil {hour : Int} {ps : List (Int × Int)} (h : ∀ p ∈ ps, p ∈ pcs hour) (e : lineOf ps = []) : ps = [] := by
  match ps, h, e with
  | [], _, _ => rfl
  | [p], h, e => exact absurd e (codes_ne (h p (List.mem_cons_self ..)))
  | p :: q :: r, h, e => 
    have e' : codes p ++ (32 :: lineOf (q :: r)) = [] := e
    simp at e'
/-- a text of pieces -/
def textOf (ps : List (Int × Int)) : Str := S (lineOf ps)
theorem text_join (ps : List (Int × Int)) : Txt.join (Str.ofString " ") (ps.map wordOf) = textOf ps := by
  have h := join_S [32] (ps.map codes)
  have e : (ps.map codes).map S = ps.map wordOf := by
    rw [List.map_map]
    refine List.map_congr_left fun p _ => ?_
    show S (wordOf p).cps.toList = _
    rw [S_tl]
  rw [e] at h
  exact h
theorem text_split {hour : Int} {ps : List (Int × Int)} (h : ∀ p ∈ ps, p ∈ pcs hour) (hne : ps ≠ []) : Txt.split (textOf ps) (Str.ofString " ") = ps.map wordOf := by
  rw [← text_join]
  refine TL.split_join (y := Str.ofString " ") (s := 32) (S := []) (by decide +kernel) (by decide +kernel) (by simpa using hne) fun p hp => ?_
  obtain ⟨q, hq, rfl⟩ := List.mem_map.mp hp
  exact codes_free (h q hq)
def OkText (hour : Int) (x : Str) : Prop := (2 ≤ hour ∧ hour ≤ 1000) ∧ x.length ≤ 1000000 ∧ ∃ ps, (∀ p ∈ ps, p ∈ pcs hour) ∧ x = textOf ps
theorem sp_eq : Str.ofString " " = S [32] := of_str _ _ rfl
theorem nul_eq : Str.ofString "" = S [] := of_str _ _ rfl
section
variable {P : Program} {w : World} {K : PySem.W.Frag} {mg : Str → Option Value} {base : Heap}
theorem since_len : ∀ (l b : List Nat), (l.foldl sinceF b).length ≤ b.length + l.length
  | [], b => by simp
  | c :: r, b => by
    have h := since_len r (sinceF b c)
    have : (sinceF b c).length ≤ b.length + 1 := by
      unfold sinceF
      split <;> simp
    show (r.foldl sinceF (sinceF b c)).length ≤ _
    simp
    omega
theorem since_short {hour : Int} (hh : hour ≤ 1000) : ∀ {ps : List (Int × Int)}, (∀ p ∈ ps, p ∈ pcs hour) → ∀ i, (((lineOf ps).take i).foldl sinceF []).length ≤ 13
  | [], _, i => by simp [lineOf, TL.joinL]
  | [p], h, i => by
    have a := since_len ((lineOf [p]).take i) []
    have b := codes_len hh (h p (List.mem_cons_self ..))
    have c : ((lineOf [p]).take i).length ≤ (codes p).length := by
      rw [List.length_take]
      exact Nat.min_le_right _ _
    simp at a c
    omega
  | p :: q :: r, h, i => by
    have e : lineOf (p :: q :: r) = codes p ++ (32 :: lineOf (q :: r)) := rfl
    have b := codes_len hh (h p (List.mem_cons_self ..))
    rw [e, List.take_append, List.foldl_append]
    cases z : i - (codes p).length with
    | zero =>
      have a := since_len ((codes p).take i) []
      rw [List.take_zero, List.foldl_nil]
      simp at a
      omega
    | succ n =>
      have ih := since_short hh (ps := q :: r) (fun z hz => h z (List.mem_cons_of_mem _ hz)) n
      rw [List.take_succ_cons]
      exact ih
theorem ok_check_minute_text (T : Tx K mg) : Cal P w K mg base 3 "check_minute_text" (Sp2 OkText fun _ _ => ()) [] := by
  have c_can_begin := ok_can_begin (P := P) (w := w) (base := base) T
  have c_piece_told := ok_piece_told (P := P) (w := w) (base := base) T
  refine cal_of T.t_check_minute_text sc_check_minute_text (fun _ _ _ _ _ _ us hl => match us, hl with | [_, _], _ => rfl) Sp2.len (fun cdv A outer s H vs Q E hr h => ?_)
  have nd := sc_check_minute_text.nd
  have hu := hu_of hr
  refine ⟨_, PSs.nox (pss_cons (ps_set (i := 2) nd rfl (by first | exact Or.inl rfl | exact Or.inr rfl) pe_str)
    (pss_cons (ps_for PassesOwn.never rfl (pi_enumS (by rfl) (T.m_enumerate) (pv 1)) (show PG _ _ (gTup K 2 _) from (pg_tup (by rfl) (pgs_cons (pg_name (i := 3) nd rfl (by first | exact Or.inl rfl | exact Or.inr rfl)) (pgs_cons (pg_name (i := 4) nd rfl (by first | exact Or.inl rfl | exact Or.inr rfl)) pgs_nil))))
    (pss_one (ps_if (PW.pt (pw_and (pt_cmpR (op_eq) (pv 4) pe_str (nomark _)) (pw_and1 (pt_cmpR (o_isnot) (pe_c c_piece_told hr (by decide) (by rfl) (pa_cons (pv 0) (pa_cons (pv 2) pa_nil))) pe_non (nomark _)))))
    (pss_one (ps_set (i := 2) nd rfl (by first | exact Or.inl rfl | exact Or.inr rfl) pe_str))
    (pss_one (ps_if (PW.pt (pw_and (pt_cmpR (op_ne) (pv 4) pe_str (nomark _)) (pw_and1 (pt_val (pe_c c_can_begin hr (by decide) (by rfl) (pa_cons (pv 0) (pa_cons (pe_op o_adds (pv 2) (pv 4)) pa_nil)))))))
    (pss_one (ps_set (i := 2) nd rfl (by first | exact Or.inl rfl | exact Or.inr rfl) (pe_op o_adds (pv 2) (pv 4))))
    (pss_one ps_never))))))
    (pss_one (ps_if (PW.pt (pw_and (pt_cmpR (op_ne) (pv 1) pe_str (nomark _)) (pw_and1 (pt_cmpR (o_is) (pe_c c_piece_told hr (by decide) (by rfl) (pa_cons (pv 0) (pa_cons (pv 2) pa_nil))) pe_non (nomark _)))))
    (pss_one ps_never)
    pss_nil)))), ?_⟩
  obtain ⟨F, v, w, hour, x, rfl, s, r, r2, ⟨⟨hp, hp2⟩, hx, ps, hps, ex⟩, q⟩ := h
  have r : v = V.int hour := r
  have r2 : w = V.str x := r2
  subst r r2
  obtain ⟨run, last⟩ := run_line hps
  have xc : x.cps.toList = lineOf ps := by rw [ex]; rfl
  refine st_asg s ev_s fun vb F1 H1 g1 rb => ?_
  refine st_for (xs := numbered (sgs x)) g1.sub (ei_enumS (ev_var (a := x) rfl rfl)) (fun i σ' F' H' => ∃ y z, σ' = [some (.int hour), some (.str x), some (.str (S (((lineOf ps).take i).foldl sinceF []))), y, z] ∧ Gr F H F' H') (fun F2 H2 g2 => ?_) (fun i z hz σ1 F2 H2 s2 ⟨y, y2, eσ, gr⟩ xv F3 H3 g3 rx => ?_) (fun σ1 F2 H2 s2 ⟨y, y2, eσ, gr⟩ => ?_)
  · refine ⟨none, none, ?_, g1.trans g2⟩
    rw [show vb = V.str (Str.ofString "") from rb, nul_eq]
    rfl
  · subst eσ
    obtain ⟨z2, hz2, rfl⟩ := numbered_at hz
    have li : i < x.cps.size := by
      have := (List.getElem?_eq_some_iff.mp hz2).1
      rw [sgs_len] at this
      exact this
    have ci : (lineOf ps)[i]? = some x.cps[i] := by
      rw [← xc, Array.getElem?_toList, Array.getElem?_eq_getElem li]
    have ez := sgs_at (Array.getElem?_eq_getElem li) hz2
    subst ez
    have hat := okRun_at run ci
    have hl := since_short hp2 hps i
    have nx : ((lineOf ps).take (i + 1)).foldl sinceF [] = sinceF (((lineOf ps).take i).foldl sinceF []) x.cps[i] := by
      rw [List.take_add_one, ci, List.foldl_append]
      rfl
    generalize ((lineOf ps).take i).foldl sinceF [] = b at hat hl nx
    generalize x.cps[i] = c at hat hl nx rx
    refine g_pair g3.sub rx fun a1 a2 ra1 ra2 => ?_
    have ra1 : a1 = V.int i := ra1
    have ra2 : a2 = V.str ⟨#[c]⟩ := ra2
    subst ra1 ra2
    by_cases hc : c = 32
    · rw [if_pos hc] at hat
      subst hc
      refine st_if (b := true) g3.sub (EvT.is (et_and (et_test (ev_eqS (ev_var (a := (⟨#[32]⟩ : Str)) rfl rfl) ev_s)) fun _ => et_test (ev_isnt (ev_call2 (pre := fun (hour : Int) (x : Str) => (2 ≤ hour ∧ hour ≤ 1000) ∧ x.length ≤ 640) (f := pieceTold) (a := hour) (b := S b) ⟨⟨hp, hp2⟩, by rw [S_len]; omega⟩ (ev_var rfl rfl) (ev_var rfl rfl)))) ?_) (fun _ F4 H4 g4 => ?_) fun z => nomatch z
      · rw [hat]
        rfl
      · refine st_asg g4.sub ev_s fun vb2 F5 H5 g5 rb5 => ⟨F5, g3.fr.trans (g4.fr.trans g5.fr), g5.sub, some (.int i), some (.str ⟨#[32]⟩), ?_, gr.trans (g3.trans (g4.trans g5))⟩
        rw [show vb2 = V.str (Str.ofString "") from rb5, nul_eq, nx]
        rfl
    · rw [if_neg hc] at hat
      have ne : decide ((⟨#[c]⟩ : Str) = Str.ofString " ") = false := by
        refine decide_eq_false fun e => hc ?_
        have e2 := congrArg (fun z : Str => z.cps.toList) e
        rw [sp_eq] at e2
        injection e2
      refine st_if (b := false) g3.sub (et_andF (et_test (ev_eqS (ev_var (a := (⟨#[c]⟩ : Str)) rfl rfl) ev_s)) ne) (fun z => nomatch z) fun _ F4 H4 g4 => ?_
      have happ : S b ++ (⟨#[c]⟩ : Str) = S (b ++ [c]) := str_S (TL.tl_append _ _)
      have ad : ∀ {F' H' : Hp}, Ev (tOp rAddS2 (tVar 2) (tVar 4)) [some (V.int hour), some (V.str x), some (V.str (S b)), some (V.int i), some (V.str ⟨#[c]⟩)] F' H' (S (b ++ [c])) := fun {F' H'} => by
        rw [← happ]
        refine ev_adds ?_ (ev_var (a := S b) rfl rfl) (ev_var (a := (⟨#[c]⟩ : Str)) rfl rfl)
        rw [S_len, sizeLine_eq]
        show b.length + 1 ≤ _
        omega
      refine st_if (b := true) g4.sub (EvT.is (et_and (et_test (ev_neS (ev_var (a := (⟨#[c]⟩ : Str)) rfl rfl) ev_s)) fun _ => et_test (ev_call2 (pre := fun (hour : Int) (x : Str) => (2 ≤ hour ∧ hour ≤ 1000) ∧ x.length ≤ 640) (f := canBegin) (a := hour) (b := S (b ++ [c])) ⟨⟨hp, hp2⟩, by rw [S_len, List.length_append]; simp; omega⟩ (ev_var rfl rfl) ad)) ?_) (fun _ F5 H5 g5 => ?_) fun z => nomatch z
      · rw [hat, ne]
        rfl
      · refine st_asg g5.sub ad fun vb2 F6 H6 g6 rb6 => ⟨F6, g3.fr.trans (g4.fr.trans (g5.fr.trans g6.fr)), g6.sub, some (.int i), some (.str ⟨#[c]⟩), ?_, gr.trans (g3.trans (g4.trans (g5.trans g6)))⟩
        rw [show vb2 = V.str (S (b ++ [c])) from rb6, nx]
        unfold sinceF
        rw [if_neg hc]
        rfl
  · subst eσ
    have el : (numbered (sgs x)).length = (lineOf ps).length := by
      rw [numbered_len, sgs_len, ← xc, Array.length_toList]
    rw [el, List.take_length]
    have hb : ((lineOf ps).foldl sinceF []).length ≤ 13 := by
      have := since_short hp2 hps (lineOf ps).length
      rwa [List.take_length] at this
    refine st_if (b := false) s2 (EvT.is (et_and (k := !decide (x = Str.ofString "")) (l := false) (et_test (ev_neS (ev_var (a := x) rfl rfl) ev_s)) fun e => EvT.is (et_test (ev_is (ev_call2 (pre := fun (hour : Int) (x : Str) => (2 ≤ hour ∧ hour ≤ 1000) ∧ x.length ≤ 640) (f := pieceTold) (a := hour) (b := S ((lineOf ps).foldl sinceF [])) ⟨⟨hp, hp2⟩, by rw [S_len]; omega⟩ (ev_var rfl rfl) (ev_var rfl rfl)))) ?_) (Bool.and_false _)) (fun z => nomatch z) fun _ F4 H4 g4 => ?_
    · refine last fun z => ?_
      subst z
      rw [ex, nul_eq] at e
      simp [textOf, lineOf, TL.joinL] at e
    · exact q _ F4 H4 (gr.trans g4) rfl
end
end K90
set_option maxHeartbeats 4000000
namespace K90
open PySem PySem.Spec PyProof.Rows L2 SX Ly
open Rep
/-! ### told minutes -/
theorem mem_rg3 {a c z : Int} {n : Nat} : z ∈ rg3 a c n ↔ ∃ i : Nat, i < n ∧ z = a + i * c := by
  unfold rg3
  simp only [List.mem_map, List.mem_range]
  constructor
  · rintro ⟨i, h, e⟩; exact ⟨i, h, e.symm⟩
  · rintro ⟨i, h, e⟩; exact ⟨i, h, e.symm⟩
theorem told_nd {hour : Int} {p : Int × Int} (h : p ∈ pcs hour) : (toldOf hour p).Nodup := by
  have hb := mem_pcs (m := p.1) (s := p.2) |>.mp h
  unfold toldOf
  split
  · simp
  · rename_i ns
    unfold rg3
    refine List.Pairwise.map _ (fun a b ne e => ne ?_) List.nodup_range
    have e2 : (a : Int) * p.2 = b * p.2 := by omega
    have := Int.eq_of_mul_eq_mul_right (by omega) e2
    omega
theorem told_len {hour : Int} {p : Int × Int} (h : p ∈ pcs hour) (hh : hour ≤ 1000) : (toldOf hour p).length ≤ 1000 := by
  have hb := mem_pcs (m := p.1) (s := p.2) |>.mp h
  unfold toldOf
  split
  · simp
  · unfold rg3
    rw [List.length_map, List.length_range]
    have := rangeSize_toNat_le p.1 hour p.2
    omega
theorem told_lt {hour z : Int} {p : Int × Int} (h : p ∈ pcs hour) (hz : z ∈ toldOf hour p) : 0 ≤ z ∧ z < hour := by
  have hb := mem_pcs (m := p.1) (s := p.2) |>.mp h
  unfold toldOf at hz
  split at hz
  · have : z = p.1 := by simpa using hz
    omega
  · rename_i ns
    obtain ⟨i, hi, rfl⟩ := mem_rg3.mp hz
    have hs : 0 < p.2 := by omega
    have e : Builtin.Range.rangeSize p.1 hour p.2 = (hour - p.1 - 1) / p.2 + 1 := by
      unfold Builtin.Range.rangeSize
      rw [if_pos hs, if_pos (by omega)]
    rw [e] at hi
    have d0 : 0 ≤ (hour - p.1 - 1) / p.2 := Int.ediv_nonneg (by omega) (by omega)
    have le : (i : Int) ≤ (hour - p.1 - 1) / p.2 := by omega
    have m1 : (i : Int) * p.2 ≤ (hour - p.1 - 1) / p.2 * p.2 := Int.mul_le_mul_of_nonneg_right le (by omega)
    have m2 : (hour - p.1 - 1) / p.2 * p.2 ≤ hour - p.1 - 1 := Int.ediv_mul_le _ (by omega)
    have m3 : 0 ≤ (i : Int) * p.2 := Int.mul_nonneg (by omega) (by omega)
    omega
def piecesOf (x : Str) : List Str := if x = S [] then [] else lumps 32 x
def readMin (hour : Int) (x : Str) : List Int := (ups 0 hour.toNat).filter fun m => (piecesOf x).any fun w => ((pieceTold hour w).getD []).contains m
def readPs (hour : Int) (ps : List (Int × Int)) : List Int := (ups 0 hour.toNat).filter fun m => ps.any fun p => (toldOf hour p).contains m
theorem pieces_text {hour : Int} {ps : List (Int × Int)} (h : ∀ p ∈ ps, p ∈ pcs hour) : piecesOf (textOf ps) = ps.map wordOf := by
  unfold piecesOf
  split
  · rename_i e
    have := line_nil h (show lineOf ps = [] from congrArg (fun z : Str => z.cps.toList) e)
    subst this
    rfl
  · rename_i ne
    have hne : ps ≠ [] := fun e => ne (by subst e; rfl)
    have := text_split h hne
    rw [sp_eq, split_parts (by decide)] at this
    exact this
theorem read_text {hour : Int} {ps : List (Int × Int)} (h : ∀ p ∈ ps, p ∈ pcs hour) : readMin hour (textOf ps) = readPs hour ps := by
  unfold readMin readPs
  rw [pieces_text h]
  refine List.filter_congr fun m _ => ?_
  rw [List.any_map]
  have aux : ∀ l : List (Int × Int), (∀ p ∈ l, p ∈ pcs hour) → l.any ((fun w => ((pieceTold hour w).getD []).contains m) ∘ wordOf) = l.any fun p => (toldOf hour p).contains m := by
    intro l
    induction l with
    | nil => intro _; rfl
    | cons p r ih =>
      intro hl
      rw [List.any_cons, List.any_cons, ih fun z hz => hl z (List.mem_cons_of_mem _ hz)]
      congr 1
      show ((pieceTold hour (wordOf p)).getD []).contains m = _
      rw [told_word (hl p (List.mem_cons_self ..))]
      rfl
  exact aux ps h
theorem mem_readPs {hour z : Int} {ps : List (Int × Int)} (h : ∀ p ∈ ps, p ∈ pcs hour) : z ∈ readPs hour ps ↔ ∃ p ∈ ps, z ∈ toldOf hour p := by
  unfold readPs
  rw [List.mem_filter, mem_ups, List.any_eq_true]
  constructor
  · rintro ⟨_, p, hp, hz⟩
    exact ⟨p, hp, by simpa using hz⟩
  · rintro ⟨p, hp, hz⟩
    have := told_lt (h p hp) hz
    exact ⟨by omega, p, hp, by simpa using hz⟩
theorem ups_sorted (lo : Int) (n : Nat) : (ups lo n).Pairwise (· < ·) := by
  unfold ups
  refine List.Pairwise.map _ (fun a b h => ?_) List.pairwise_lt_range
  omega
theorem readPs_sorted (hour : Int) (ps : List (Int × Int)) : (readPs hour ps).Pairwise (· < ·) := (ups_sorted _ _).filter _
theorem num_print {n c : Nat} (h : c ∈ TL.numL n) : 32 ≤ c ∧ c ≤ 126 := by
  have := TL.numL_digits n c h
  omega
theorem codes_print {hour : Int} {p : Int × Int} (h : p ∈ pcs hour) : ∀ c ∈ codes p, 32 ≤ c ∧ c ≤ 126 := by
  rw [codes_eq h]
  split
  · exact fun c hc => num_print hc
  · intro c hc
    rcases List.mem_append.mp hc with z | z
    · exact num_print z
    · rcases List.mem_cons.mp z with z | z
      · omega
      · exact num_print z
theorem line_print {hour : Int} : ∀ {ps : List (Int × Int)}, (∀ p ∈ ps, p ∈ pcs hour) → ∀ c ∈ lineOf ps, 32 ≤ c ∧ c ≤ 126
  | [], _, c, hc => by simp [lineOf, TL.joinL] at hc
  | [p], h, c, hc => codes_print (h p (List.mem_cons_self ..)) c hc
  | p :: q :: r, h, c, hc => by
    have hc : c ∈ codes p ++ (32 :: lineOf (q :: r)) := hc
    rcases List.mem_append.mp hc with z | z
    · exact codes_print (h p (List.mem_cons_self ..)) c z
    · rcases List.mem_cons.mp z with z | z
      · omega
      · exact line_print (fun y hy => h y (List.mem_cons_of_mem _ hy)) c z
theorem ev_unsome {α : Type} [Rep α] {te : TE} {σ : L2.St} {F H : Hp} {a : α} (h : Ev te σ F H (some a)) : Ev te σ F H a := h
theorem isd_tr {F : Hp} {ms : List Int} {o : HO} (h : IsD (ms.map fun m => (m, true)) F o) : o = .dK (ms.map tr) := by
  obtain ⟨us, e, hp⟩ := h
  subst e
  congr 1
  generalize eds : (ms.map fun m => (m, true)) = ds at hp
  induction hp generalizing ms with
  | nil => cases ms with
    | nil => rfl
    | cons m r => cases eds
  | cons h t ih => cases ms with
    | nil => cases eds
    | cons m r =>
      rw [List.map_cons] at eds
      injection eds with e1 e2
      rw [List.map_cons, ← ih e2]
      congr 1
      subst e1
      refine Prod.ext h.1 h.2
section
variable {P : Program} {w : World} {K : PySem.W.Frag} {mg : Str → Option Value} {base : Heap}
theorem ok_read_minutes (T : Tx K mg) : Cal P w K mg base 4 "read_minutes" (Sp2 OkText readMin) [] := by
  have c_check_hour := ok_check_hour (P := P) (w := w) (base := base) T
  have c_check_minute_text := ok_check_minute_text (P := P) (w := w) (base := base) T
  have c_piece_told := ok_piece_told (P := P) (w := w) (base := base) T
  refine cal_of T.t_read_minutes sc_read_minutes (fun _ _ _ _ _ _ us hl => match us, hl with | [_, _], _ => rfl) Sp2.len (fun cdv A outer s H vs Q E hr h => ?_)
  have nd := sc_read_minutes.nd
  have hu := hu_of hr
  refine ⟨_, PSs.nox (pss_cons (ps_expr (pe_c c_check_hour hr (by decide) (by rfl) (pa_cons (pv 0) pa_nil)))
    (pss_cons (ps_if (PW.pt (pw_or (pt_not (pt_val (pe_callB (call_isi) (by rfl) (T.m_isinstance) (by decide +kernel) (pa_cons (pv 1) (pa_cons (pe_bltn (v := .ty "str") (by rfl) (T.m_str) (by decide +kernel) rfl) pa_nil))))) (pw_or1 (pt_not (pt_val (pe_callB (show CallR _ _ (rAll K) from cr_all rfl) (by rfl) (T.m_all) (by decide +kernel) (pa_cons (pe_lc (own := [("sign", 2)]) rfl nd (pi_str (pv 1)) (blkOk_by (N := N_read_minutes) (sc := (defScope s_read_minutes)) (by decide +kernel)) (fun _ _ _ _ _ => (pg_name (i := 2) nd rfl (by first | exact Or.inl rfl | exact Or.inr rfl))) (fun _ _ _ _ _ => pts_nil) (fun _ _ _ _ _ => (pe_chain (o_les) (o_les) pe_str (pv 2) pe_str))) pa_nil)))))))
    (pss_one ps_never)
    pss_nil)
    (pss_cons (ps_expr (pe_c c_check_minute_text hr (by decide) (by rfl) (pa_cons (pv 0) (pa_cons (pv 1) pa_nil))))
    (pss_cons (ps_set (i := 3) nd rfl (by first | exact Or.inl rfl | exact Or.inr rfl) pe_dnewK)
    (pss_cons (ps_for PassesOwn.never rfl (show PI _ _ _ (iList K _) from (pi_list (pe_ifExp (pt_cmpR (op_ne) (pv 1) pe_str (nomark _)) (pe_split (pv 1) pe_str) (pe_lst pa_nil)))) (pg_name (i := 4) nd rfl (by first | exact Or.inl rfl | exact Or.inr rfl))
    (pss_one (ps_expr (pe_bm PySem.F.plainAttrs_dict PySem.F.slot_dict_update PySem.F.type_dict_update o_update (pv 3) (pa_cons (pe_dc (own := [("minute", 5)]) rfl nd (show PI _ _ _ (iList K _) from (pi_list (pe_c c_piece_told hr (by decide) (by rfl) (pa_cons (pv 0) (pa_cons (pv 4) pa_nil))))) (blkOk_by (N := N_read_minutes) (sc := (defScope s_read_minutes)) (by decide +kernel)) (fun _ _ _ _ _ => (pg_name (i := 5) nd rfl (by first | exact Or.inl rfl | exact Or.inr rfl))) (fun _ _ _ _ _ => pts_nil) (fun _ _ _ _ _ => (pv 5)) (fun _ _ _ _ _ => pe_bl)) pa_nil)))))
    (pss_one (ps_ret (pe_callB (o_sortedDI rfl) (by rfl) (T.m_sorted) (by decide +kernel) (pa_cons (pv 3) pa_nil))))))))), ?_⟩
  obtain ⟨F, v, w, hour, x, rfl, s, r, r2, hok, q⟩ := h
  have hok' := hok
  obtain ⟨⟨hp, hp2⟩, hx, ps, hps, ex⟩ := hok'
  have r : v = V.int hour := r
  have r2 : w = V.str x := r2
  subst r r2
  have hz : x.length ≤ sizeLine := Nat.le_trans hx (by rw [sizeLine_eq]; decide)
  have hz2 : (sgs x).length ≤ sizeLine := by rw [sgs_len]; exact hz
  refine st_drop s (ev_call1 (pre := fun a : Int => 2 ≤ a) (f := fun _ => ()) (a := hour) hp (ev_var rfl rfl)) fun F1 H1 g1 => ?_
  refine st_if (b := false) g1.sub (EvT.is (et_or (et_not (et_B (ev_isi (b := true) (by decide +kernel) (ev_var (a := x) rfl rfl)))) fun _ => et_not (et_B (ev_all (ev_map (f := fun z : Str => (!decide (z.cps.toList < [32])) && (!decide ([126] < z.cps.toList))) (ei_str (ev_var (a := x) rfl rfl)) hz2 (fun _ => rfl) (fun j z e F1 H1 y g1 ry =>
    ev_chain rd_leS (fun _ => rd_leS) ev_s (ev_var rfl ry) fun _ => ev_s))))) ?_) (fun z => nomatch z) fun _ F2 H2 g2 => ?_
  · rw [sgs_all]
    have : (x.cps.toList.all fun c => (!decide ((⟨#[c]⟩ : Str).cps.toList < [32])) && (!decide ([126] < (⟨#[c]⟩ : Str).cps.toList))) = true := by
      rw [List.all_eq_true]
      intro c hc
      have hc : c ∈ lineOf ps := by rw [ex] at hc; exact hc
      have := line_print hps c hc
      have h1 := sg_le 32 c
      have h2 := sg_le c 126
      rw [show ([32] : List Nat) = (⟨#[32]⟩ : Str).cps.toList from rfl, show ([126] : List Nat) = (⟨#[126]⟩ : Str).cps.toList from rfl, h1, h2]
      simp
      omega
    rw [this]
    rfl
  unfold tNext
  dsimp only
  refine st_drop g2.sub (ev_call2 (pre := OkText) (f := fun _ _ => ()) (a := hour) (b := x) hok (ev_var rfl rfl) (ev_var rfl rfl)) fun F3 H3 g3 => ?_
  refine st_asgN g3.sub (en_dict0 (κ := Int) (α := Bool)) fun p o F4 H4 g4 n f e ho => ?_
  obtain ⟨us, eo, hp0⟩ := ho
  cases hp0
  subst eo
  have gA := g1.trans (g2.trans (g3.trans g4))
  have hit : EvI (iList K (tIf (tTest (tOp rNe (tVar 1) (tC (.str (Str.ofString ""))))) (tM1 (fun x xs H Q => ∃ a b, x = .str a ∧ xs = [.str b] ∧ (b.length == 0) = false ∧ a.length + 2 ≤ sizeLine ∧ rNewStrs (Txt.split a b) H Q) (tVar 1) (tC (.str (Str.ofString " ")))) (tLst tNil))) [some (.int hour), some (.str x), none, some (.ref p), none, none] F4 H4 (ps.map wordOf) := by
    refine ei_list (ev_if (et_test (ev_neS (ev_var (a := x) rfl rfl) ev_s)) (fun e => Ev.is (ev_split (x := x) (z := Str.ofString " ") (by decide +kernel) (by rw [sizeLine_eq]; omega) (ev_var rfl rfl) ev_s) ?_) fun e => Ev.is ev_lst0 ?_)
    · have := pieces_text hps
      rw [← ex] at this
      rw [sp_eq, split_parts (by decide), ← this]
      unfold piecesOf
      rw [nul_eq] at e
      rw [if_neg (by simpa using e)]
    · have := pieces_text hps
      rw [← ex] at this
      rw [← this]
      unfold piecesOf
      rw [nul_eq] at e
      rw [if_pos (by simpa using e)]
  refine st_for (xs := ps.map wordOf) g4.sub hit (fun i σ' F' H' => ∃ (y : Option V) (ks : List Int), σ' = [some (.int hour), some (.str x), none, some (.ref p), y, none] ∧ Gr F H F' H' ∧ F' p = none ∧ H' p = some (.dK (ks.map tr)) ∧ ks.Nodup ∧ (∀ z, z ∈ ks ↔ ∃ c ∈ ps.take i, z ∈ toldOf hour c)) (fun F5 H5 g5 => ?_) (fun i z hz σ1 F5 H5 s5 ⟨y, ks, eσ, gr, f5, e5, nd5, m5⟩ xv F6 H6 g6 rx => ?_) (fun σ1 F5 H5 s5 ⟨y, ks, eσ, gr, f5, e5, nd5, m5⟩ => ?_)
  · exact ⟨none, [], rfl, gA.trans g5, g5.live e f, g5.at e, List.nodup_nil, fun z => by simp⟩
  · subst eσ
    rw [List.getElem?_map, Option.map_eq_some_iff] at hz
    obtain ⟨c, hc, rfl⟩ := hz
    have hcm := hps c (List.mem_of_getElem? hc)
    have wl : (wordOf c).length ≤ 640 := by
      have := codes_len hp2 hcm
      show (wordOf c).cps.size ≤ 640
      rw [← Array.length_toList]
      exact Nat.le_trans this (by decide)
    have ksl : ks.length ≤ 1000 := by
      have := nd_len (l := ups 0 hour.toNat) nd5 fun z hz => by
        obtain ⟨c', hc', hz'⟩ := (m5 z).mp hz
        have := told_lt (hps c' (List.mem_of_mem_take hc')) hz'
        exact mem_ups.mpr (by omega)
      rw [ups_len] at this
      omega
    have hev : EvN (tDc (iList K (tCall (Sp2 (fun (hour : Int) (x : Str) => (2 ≤ hour ∧ hour ≤ 1000) ∧ x.length ≤ 640) pieceTold) [] E0 (tCons (tVar 0) (tCons (tVar 4) tNil)))) (gName 5) tYes (tVar 5) (tC (.bl true)) [5]) [some (.int hour), some (.str x), none, some (.ref p), some xv, none] F6 H6 (IsD ((toldOf hour c).map fun m => (m, true))) := by
      refine en_dmap (fk := fun m : Int => m) (fv := fun _ => true) (ei_list (ev_unsome (Ev.is (ev_call2 (pre := fun (hour : Int) (x : Str) => (2 ≤ hour ∧ hour ≤ 1000) ∧ x.length ≤ 640) (f := pieceTold) (a := hour) (b := wordOf c) ⟨⟨hp, hp2⟩, wl⟩ (ev_var rfl rfl) (ev_var rfl rx)) (told_word hcm)))) ?_ ?_ (fun _ => rfl) fun j z e F1 H1 y g1' ry => ⟨ev_var rfl ry, ev_b⟩
      · have := told_len hcm hp2
        rw [sizeLine_eq]
        omega
      · rw [List.map_id']
        exact told_nd hcm
    refine ⟨.ref p, rfl, .inr (.inr (.inl ⟨rfl, .inl ⟨_, g6.at e5⟩⟩)), hev.go g6.sub fun r' o' F7 H7 g7 n7 f7 e7 ho => ?_⟩
    have ho := isd_tr ho
    subst ho
    have p7 : H7 p = some (.dK (ks.map tr)) := g7.at (g6.at e5)
    refine ⟨p, r', ks.map tr, (toldOf hour c).map tr, rfl, rfl, fun z => ?_, p7, e7, ?_, ?_⟩
    · subst z
      rw [g6.at e5] at n7
      cases n7
    · have := told_len hcm hp2
      rw [List.length_map, List.length_map, sizeLine_eq]
      omega
    · rw [tr_merge]
      have f7' : F7 p = none := g7.live (g6.at e5) (g6.live e5 f5)
      refine ⟨F7, g6.fr.trans g7.fr, same_put g7.sub f7', _, _, rfl, (gr.trans (g6.trans g7)).put (.inl ?_) f7', f7', upd_same, add_nd _ nd5, fun z => ?_⟩
      · cases e0 : H p with
        | none => rfl
        | some o =>
          have := (g1.trans (g2.trans g3)).at e0
          rw [this] at n
          cases n
      · rw [add_mem, m5, List.take_add_one, hc]
        constructor
        · rintro (⟨d, hd, hz⟩ | hz)
          · exact ⟨d, List.mem_append_left _ hd, hz⟩
          · exact ⟨c, List.mem_append_right _ (by simp), hz⟩
        · rintro ⟨d, hd, hz⟩
          rcases List.mem_append.mp hd with hd | hd
          · exact .inl ⟨d, hd, hz⟩
          · have : d = c := by simpa using hd
            exact .inr (this ▸ hz)
  · subst eσ
    refine st_ret (a := readMin hour x) s5 (ev_sortDI (ks := ks) (evv rfl) (.inl e5) (by rw [List.map_map, ]; rfl) fun ys h1 h2 => ?_) fun u F6 H6 g6 r6 => q u F6 H6 (gr.trans g6) r6
    rw [ex, read_text hps]
    refine sorted_is nd5 (readPs_sorted _ _) (fun z => ?_) ys h1 h2
    rw [m5, mem_readPs hps, List.length_map, List.take_length]
end
end K90
set_option maxHeartbeats 4000000
namespace K90
open PySem PySem.Spec PyProof.Rows L2 SX Ly
open Rep
theorem st_drop0 {te : TE} {D : Ends} {σ : L2.St} {H : Hp} (h : te σ H fun _ H' => D.nx σ H') : tDrop te D σ H := h
def OkMins (hour : Int) (ms : List Int) : Prop := (2 ≤ hour ∧ hour ≤ 1000) ∧ ms.Pairwise (· < ·) ∧ ∀ m ∈ ms, 0 ≤ m ∧ m < hour
theorem mins_nd {hour : Int} {ms : List Int} (h : OkMins hour ms) : ms.Nodup := h.2.1.imp fun {a b} h e => by omega
theorem mins_len {hour : Int} {ms : List Int} (h : OkMins hour ms) : ms.length ≤ 1000 := by
  have := nd_len (l := ups 0 hour.toNat) (mins_nd h) fun z hz => by
    have := h.2.2 z hz
    exact mem_ups.mpr (by omega)
  rw [ups_len] at this
  have := h.1
  omega
theorem rising_zip : ∀ {ms : List Int}, ms.Pairwise (· < ·) → ((ms.zip (ms.drop 1)).map fun p => decide (p.1 < p.2)).all id = true
  | [], _ => rfl
  | [x], _ => rfl
  | x :: y :: r, h => by
    rw [List.pairwise_cons] at h
    have ih := rising_zip h.2
    show (decide (x < y) && ((List.zip (y :: r) r).map fun p => decide (p.1 < p.2)).all id) = true
    rw [decide_eq_true (h.1 y (List.mem_cons_self ..)), Bool.true_and]
    exact ih
def wordTold (hour : Int) (w : Str) : List Int := (look (wordsOf hour (pcs hour)) w).getD []
def allWords (hour : Int) : List Str := sortW ((pcs hour).map wordOf)
theorem words_keys (hour : Int) (ps : List (Int × Int)) : (wordsOf hour ps).map (·.1) = ps.map wordOf := by
  unfold wordsOf
  rw [List.map_map]
  rfl
theorem look_word {hour : Int} : ∀ {ps : List (Int × Int)} {p : Int × Int}, (∀ q ∈ ps, q ∈ pcs hour) → p ∈ ps → look (wordsOf hour ps) (wordOf p) = some (toldOf hour p)
  | q :: r, p, hq, h => by
    by_cases e : wordOf q = wordOf p
    · have a := nn_pcs (hq q (List.mem_cons_self ..))
      have b := nn_pcs (hq p h)
      have e2 : q = p := word_inj (m := q.1) (s := q.2) (m' := p.1) (s' := p.2) a.1 a.2 b.1 b.2 e
      subst e2
      exact look_pos (p := (wordOf q, toldOf hour q)) rfl
    · show look ((wordOf q, toldOf hour q) :: wordsOf hour r) _ = _
      rw [look_neg e]
      rcases List.mem_cons.mp h with z | z
      · exact absurd (by rw [z]) e
      · exact look_word (fun y hy => hq y (List.mem_cons_of_mem _ hy)) z
theorem told_at {hour : Int} {p : Int × Int} (h : p ∈ pcs hour) : look (wordsOf hour (pcs hour)) (wordOf p) = some (toldOf hour p) ∧ wordTold hour (wordOf p) = toldOf hour p := by
  have e := look_word (fun q hq => hq) h
  unfold wordTold
  rw [e]
  exact ⟨rfl, rfl⟩
theorem mem_words {hour : Int} {w : Str} : w ∈ allWords hour ↔ ∃ p ∈ pcs hour, w = wordOf p := by
  unfold allWords
  rw [sortW_mem, List.mem_map]
  constructor
  · rintro ⟨p, h, e⟩; exact ⟨p, h, e.symm⟩
  · rintro ⟨p, h, e⟩; exact ⟨p, h, e.symm⟩
def usefulIn (ms : List Int) (ts : List Int) : Bool := ts.all fun m => ms.contains m
def useful (hour : Int) (ms : List Int) : List (Str × List Int) := ((allWords hour).filter fun w => usefulIn ms (wordTold hour w)).map fun w => (w, wordTold hour w)
theorem mem_useful {hour : Int} {ms : List Int} {q : Str × List Int} : q ∈ useful hour ms ↔ ∃ p ∈ pcs hour, q = (wordOf p, toldOf hour p) ∧ ∀ m ∈ toldOf hour p, m ∈ ms := by
  unfold useful usefulIn
  simp only [List.mem_map, List.mem_filter, mem_words, List.all_eq_true, List.contains_iff_mem]
  constructor
  · rintro ⟨w, ⟨⟨p, hp, rfl⟩, h⟩, rfl⟩
    rw [(told_at hp).2] at h ⊢
    exact ⟨p, hp, rfl, h⟩
  · rintro ⟨p, hp, rfl, h⟩
    exact ⟨wordOf p, ⟨⟨p, hp, rfl⟩, by rw [(told_at hp).2]; exact h⟩, by rw [(told_at hp).2]⟩
def bitsOf (ms : List Int) : Int := (ms.map fun m => (1 : Int) * 2 ^ m.toNat).sum
section
variable {P : Program} {w : World} {K : PySem.W.Frag} {mg : Str → Option Value} {base : Heap}
theorem ok_check_minutes_told (T : Tx K mg) : Cal P w K mg base 4 "check_minutes_told" (Sp2 OkMins fun _ _ => ()) [] := by
  have c_check_hour := ok_check_hour (P := P) (w := w) (base := base) T
  have c_is_count_1 := ok_is_count_1 (P := P) (w := w) (base := base) T
  refine cal_of T.t_check_minutes_told sc_check_minutes_told (fun _ _ _ _ _ _ us hl => match us, hl with | [_, _], _ => rfl) Sp2.len (fun cdv A outer s H vs Q E hr h => ?_)
  have nd := sc_check_minutes_told.nd
  have hu := hu_of hr
  refine ⟨_, PSs.nox (pss_cons (ps_expr (pe_c c_check_hour hr (by decide) (by rfl) (pa_cons (pv 0) pa_nil)))
    (pss_cons (ps_if (PW.pt (pw_or (pt_not (pt_val (pe_callB (call_isi) (by rfl) (T.m_isinstance) (by decide +kernel) (pa_cons (pv 1) (pa_cons (pe_bltn (v := .ty "list") (by rfl) (T.m_list) (by decide +kernel) rfl) pa_nil))))) (pw_or1 (pt_not (pt_val (pe_callB (show CallR _ _ (rAll K) from cr_all rfl) (by rfl) (T.m_all) (by decide +kernel) (pa_cons (pe_lc (own := [("minute", 2)]) rfl nd (show PI _ _ _ (iList K _) from (pi_list (pv 1))) (blkOk_by (N := N_check_minutes_told) (sc := (defScope s_check_minutes_told)) (by decide +kernel)) (fun _ _ _ _ _ => (pg_name (i := 2) nd rfl (by first | exact Or.inl rfl | exact Or.inr rfl))) (fun _ _ _ _ _ => pts_nil) (fun _ _ _ _ _ => (pe_and (pe_c c_is_count_1 hr (by decide) (by rfl) (pa_cons (pv 2) pa_nil)) (pe_one (pe_cmpR (o_lt) (pv 2) (pv 0) (nomark _)))))) pa_nil)))))))
    (pss_one ps_never)
    pss_nil)
    (pss_one (ps_if (pt_not (pt_val (pe_callB (show CallR _ _ (rAll K) from cr_all rfl) (by rfl) (T.m_all) (by decide +kernel) (pa_cons (pe_lc (own := [("one", 3), ("late", 4)]) rfl nd (pi_zip (by rfl) (T.m_zip) (pa_cons (pv 1) (pa_cons (pe_slice (show SlR _ (rSlL K) from sl_list) (pv 1) (po_some pe_int) po_none) pa_nil))) (blkOk_by (N := N_check_minutes_told) (sc := (defScope s_check_minutes_told)) (by decide +kernel)) (fun _ _ _ _ _ => (show PG _ _ (gTup K 2 _) from (pg_tup (by rfl) (pgs_cons (pg_name (i := 3) nd rfl (by first | exact Or.inl rfl | exact Or.inr rfl)) (pgs_cons (pg_name (i := 4) nd rfl (by first | exact Or.inl rfl | exact Or.inr rfl)) pgs_nil))))) (fun _ _ _ _ _ => pts_nil) (fun _ _ _ _ _ => (pe_cmpR (o_lt) (pv 3) (pv 4) (nomark _)))) pa_nil))))
    (pss_one ps_never)
    pss_nil)))), ?_⟩
  obtain ⟨F, v, w, hour, ms, rfl, s, r, r2, hok, q⟩ := h
  have hl := mins_len hok
  refine st_drop s (ev_call1 (pre := fun a : Int => 2 ≤ a) (f := fun _ => ()) (a := hour) hok.1.1 (ev_var rfl r)) fun F1 H1 g1 => ?_
  refine st_if (b := false) g1.sub (EvT.is (et_or (et_not (et_B (ev_isi (b := true) (by decide +kernel) (ev_var (a := ms) rfl (Rep.mono g1.fr r2))))) fun _ => et_not (et_B (ev_all (ev_map (f := fun z : Int => decide (max 0 0 ≤ z) && decide (z < hour)) (ei_list (ev_var (a := ms) rfl (Rep.mono g1.fr r2))) (by rw [sizeLine_eq]; omega) (fun _ => rfl) (fun j z e F2 H2 y g2 ry =>
    ev_andV (ev_call2d (f := fun a b : Int => decide (max b 0 ≤ a)) (a := z) (b := 0) (fun _ => rfl) trivial (ev_var rfl ry)) fun _ => ev_lt (ev_var (a := z) rfl ry) (ev_var (a := hour) rfl (Rep.mono (g1.fr.trans g2.fr) r))))))) ?_) (fun z => nomatch z) fun _ F2 H2 g2 => ?_
  · have : (ms.map fun z : Int => decide (max 0 0 ≤ z) && decide (z < hour)).all id = true := by
      rw [List.all_map, List.all_eq_true]
      intro z hz
      have := hok.2.2 z hz
      simp
      omega
    rw [this]
    rfl
  unfold tNext
  dsimp only
  have g12 := g1.trans g2
  refine st_if (b := false) g2.sub (EvT.is (et_not (et_B (ev_all (ev_map2 (f := fun p : Int × Int => decide (p.1 < p.2)) (ei_zip (ev_var (a := ms) rfl (Rep.mono g12.fr r2)) (ev_slL (zs := ms) (lo := some 1) (hi := none) (ev_var rfl (Rep.mono g12.fr r2)) (eo_some ev_i) eo_none)) ?_ (fun _ _ => rfl) (fun n z e F3 H3 x y g3 rx ry =>
    ev_lt (ev_var (a := z.1) rfl rx) (ev_var (a := z.2) rfl ry)))))) ?_) (fun z => nomatch z) fun _ F3 H3 g3 => ?_
  · rw [List.length_zip, sizeLine_eq]
    omega
  · rw [cut_tail, rising_zip hok.2.1]
    rfl
  · exact q _ F3 H3 (g1.trans (g2.trans g3)) rfl
def plainText (_ : Int) (ms : List Int) : Str := Txt.join (Str.ofString " ") (ms.map numS)
theorem ok_plain_minutes (T : Tx K mg) : Cal P w K mg base 5 "plain_minutes" (Sp2 OkMins plainText) [] := by
  have c_check_minutes_told := ok_check_minutes_told (P := P) (w := w) (base := base) T
  refine cal_of T.t_plain_minutes sc_plain_minutes (fun _ _ _ _ _ _ us hl => match us, hl with | [_, _], _ => rfl) Sp2.len (fun cdv A outer s H vs Q E hr h => ?_)
  have nd := sc_plain_minutes.nd
  have hu := hu_of hr
  refine ⟨_, PSs.nox (pss_cons (ps_expr (pe_c c_check_minutes_told hr (by decide) (by rfl) (pa_cons (pv 0) (pa_cons (pv 1) pa_nil))))
    (pss_one (ps_ret (pe_join pe_str (pe_lc (own := [("minute", 2)]) rfl nd (show PI _ _ _ (iList K _) from (pi_list (pv 1))) (blkOk_by (N := N_plain_minutes) (sc := (defScope s_plain_minutes)) (by decide +kernel)) (fun _ _ _ _ _ => (pg_name (i := 2) nd rfl (by first | exact Or.inl rfl | exact Or.inr rfl))) (fun _ _ _ _ _ => pts_nil) (fun _ _ _ _ _ => (pe_callTy (o_str) (by rfl) (T.m_str) (by decide +kernel) (pa_cons (pv 2) pa_nil)))))))), ?_⟩
  obtain ⟨F, v, w, hour, ms, rfl, s, r, r2, hok, q⟩ := h
  have hl := mins_len hok
  refine st_drop s (ev_call2 (pre := OkMins) (f := fun _ _ => ()) (a := hour) (b := ms) hok (ev_var rfl r) (ev_var rfl r2)) fun F1 H1 g1 => ?_
  refine st_ret (a := plainText hour ms) g1.sub (ev_join ?_ ev_s (ev_map (f := numS) (ei_list (ev_var (a := ms) rfl (Rep.mono g1.fr r2))) (by rw [sizeLine_eq]; omega) (fun _ => rfl) fun j z e F2 H2 y g2 ry => ev_str (log_lt ?_) (ev_var rfl ry))) fun u F2 H2 g2 r3 => q u F2 H2 (g1.trans g2) r3
  · have a : ((ms.map numS).map (·.length)).sum ≤ ms.length * 6 := by
      have h6 : ∀ m ∈ ms, (numS m).length ≤ 6 := fun m hm => len_numS (by
        have := hok.2.2 m hm
        have := hok.1
        omega)
      generalize ms = l at h6
      induction l with
      | nil => simp
      | cons x t ih =>
        have := ih fun m hm => h6 m (List.mem_cons_of_mem _ hm)
        have := h6 x (List.mem_cons_self ..)
        rw [List.map_cons, List.map_cons, List.sum_cons, List.length_cons]
        omega
    have b : (Str.ofString " ").length = 1 := by decide +kernel
    rw [b, List.length_map]
    omega
  · have := hok.2.2 z (List.mem_of_getElem? e)
    have := hok.1
    omega
theorem ok_bits_of (T : Tx K mg) : Cal P w K mg base 1 "bits_of" (Sp1 (fun ms : List Int => ms.length ≤ 1000 ∧ ∀ m ∈ ms, 0 ≤ m ∧ m ≤ 1000) bitsOf) [] := by
  refine cal_of T.t_bits_of sc_bits_of (fun _ _ _ _ _ _ us hl => match us, hl with | [_], _ => rfl) Sp1.len (fun cdv A outer s H vs Q E hr h => ?_)
  have nd := sc_bits_of.nd
  have hu := hu_of hr
  refine ⟨_, PSs.nox (pss_one (ps_ret (pe_callB (show CallR _ _ (rSum K) from cr_sum rfl) (by rfl) (T.m_sum) (by decide +kernel) (pa_cons (pe_lc (own := [("minute", 1)]) rfl nd (show PI _ _ _ (iList K _) from (pi_list (pv 0))) (blkOk_by (N := N_bits_of) (sc := (defScope s_bits_of)) (by decide +kernel)) (fun _ _ _ _ _ => (pg_name (i := 1) nd rfl (by first | exact Or.inl rfl | exact Or.inr rfl))) (fun _ _ _ _ _ => pts_nil) (fun _ _ _ _ _ => (pe_op o_shl pe_int (pv 1)))) pa_nil)))), ?_⟩
  obtain ⟨F, v, ms, rfl, s, r, ⟨hl, hm⟩, q⟩ := h
  refine st_ret (a := bitsOf ms) s (ev_sum (ev_map (f := fun m : Int => (1 : Int) * 2 ^ m.toNat) (ei_list (ev_var (a := ms) rfl r)) (by rw [sizeLine_eq]; omega) (fun _ => rfl) fun j z e F2 H2 y g2 ry => ev_shl ?_ ev_i (ev_var (a := z) rfl ry))) q
  have := hm z (List.mem_of_getElem? e)
  exact ⟨by omega, by omega, by decide⟩
theorem drel_word {F : Hp} {kvs : List (Key × V)} {ds : List (Str × List Int)} (h : Paired (DRel F) kvs ds) : kvs.map (·.1) = (ds.map (·.1)).map Sum.inr := drel_keys h
theorem ok_useful_pieces (T : Tx K mg) : Cal P w K mg base 3 "useful_pieces" (Sp2 OkMins useful) [] := by
  have c_words_by := ok_words_by (P := P) (w := w) (base := base) T
  refine cal_of T.t_useful_pieces sc_useful_pieces (fun _ _ _ _ _ _ us hl => match us, hl with | [_, _], _ => rfl) Sp2.len (fun cdv A outer s H vs Q E hr h => ?_)
  have nd := sc_useful_pieces.nd
  have hu := hu_of hr
  refine ⟨_, PSs.nox (pss_cons (ps_asg (pe_tup (pa_cons (pe_c c_words_by hr (by decide) (by rfl) (pa_cons (pv 0) pa_nil)) (pa_cons (pe_dc (own := [("minute", 2)]) rfl nd (show PI _ _ _ (iList K _) from (pi_list (pv 1))) (blkOk_by (N := N_useful_pieces) (sc := (defScope s_useful_pieces)) (by decide +kernel)) (fun _ _ _ _ _ => (pg_name (i := 2) nd rfl (by first | exact Or.inl rfl | exact Or.inr rfl))) (fun _ _ _ _ _ => pts_nil) (fun _ _ _ _ _ => (pv 2)) (fun _ _ _ _ _ => pe_bl)) pa_nil))) (show PG _ _ (gTup K 2 _) from (pg_tup (by rfl) (pgs_cons (pg_name (i := 3) nd rfl (by first | exact Or.inl rfl | exact Or.inr rfl)) (pgs_cons (pg_name (i := 4) nd rfl (by first | exact Or.inl rfl | exact Or.inr rfl)) pgs_nil)))))
    (pss_cons (ps_set (i := 5) nd rfl (by first | exact Or.inl rfl | exact Or.inr rfl) (pe_lst pa_nil))
    (pss_cons (ps_for PassesOwn.never rfl (show PI _ _ _ (iList K _) from (pi_list (pe_callB (o_sortedDS rfl) (by rfl) (T.m_sorted) (by decide +kernel) (pa_cons (pv 3) pa_nil)))) (pg_name (i := 6) nd rfl (by first | exact Or.inl rfl | exact Or.inr rfl))
    (pss_one (ps_if (pt_val (pe_callB (show CallR _ _ (rAll K) from cr_all rfl) (by rfl) (T.m_all) (by decide +kernel) (pa_cons (pe_lc (own := [("minute", 2)]) rfl nd (show PI _ _ _ (iList K _) from (pi_list (pe_dget hu (pv 3) (pv 6) (fun _ _ => rfl)))) (blkOk_by (N := N_useful_pieces) (sc := (defScope s_useful_pieces)) (by decide +kernel)) (fun _ _ _ _ _ => (pg_name (i := 2) nd rfl (by first | exact Or.inl rfl | exact Or.inr rfl))) (fun _ _ _ _ _ => pts_nil) (fun _ _ _ _ _ => (pe_cmp (pc_din hu (pv 2) (pv 4)) rfl))) pa_nil)))
    (pss_one (ps_expr (pe_bm PySem.F.plainAttrs_list PySem.F.slot_list_append PySem.F.type_list_append mt_append (pv 5) (pa_cons (pe_tup (pa_cons (pv 6) (pa_cons (pe_dget hu (pv 3) (pv 6) (fun _ _ => rfl)) pa_nil))) pa_nil))))
    pss_nil)))
    (pss_one (ps_ret (pv 5)))))), ?_⟩
  obtain ⟨F, v, w, hour, ms, rfl, s, r, r2, hok, q⟩ := h
  have hl := mins_len hok
  refine (ev_tup2 (ev_call1 (pre := fun hour : Int => 2 ≤ hour ∧ hour ≤ 1000) (f := fun hour => Dct.mk (wordsOf hour (pcs hour))) (a := hour) hok.1 (ev_var rfl r)) (en_dmap (fk := fun m : Int => m) (fv := fun _ => true) (ei_list (ev_var (a := ms) rfl r2)) (by rw [sizeLine_eq]; omega) (by rw [List.map_id']; exact mins_nd hok) (fun _ => rfl) (fun j z e F1 H1 x g1' ry => ⟨ev_var rfl ry, ev_b⟩)).iceD).go s fun vt F2 H2 g12 rt => g_pair g12.sub rt fun vw vd rw2 rd => ?_
  obtain ⟨pw, kw, rfl, ew, hw⟩ := rw2
  obtain ⟨pd, kd, rfl, ed, hd⟩ := rd
  have hmd : ∀ z : Int, (look (ms.map fun m => (m, true)) z).isSome = ms.contains z := by
    intro z
    have a := look_some_mem (k := z) (ds := ms.map fun m => (m, true))
    have e : (ms.map fun m => (m, true)).map (·.1) = ms := by
      rw [List.map_map]
      exact List.map_id' _
    rw [e] at a
    rw [Bool.eq_iff_iff, List.contains_iff_mem]
    exact a
  refine st_asgN g12.sub (en_lst0 (α := Str × List Int)) fun p o F3 H3 g3 n f e ho => ?_
  obtain ⟨us, eo, hp0⟩ := ho
  cases hp0
  subst eo
  have n0 : H p = none := by
    cases e0 : H p with
    | none => rfl
    | some o =>
      rw [g12.at e0] at n
      cases n
  refine st_for (xs := allWords hour) g3.sub (ei_list (ev_sortDS (kvs := kw) (ks := (pcs hour).map wordOf) (evv rfl) (.inl (g3.sub _ _ (g3.fr _ _ ew))) (by rw [drel_word hw, words_keys]) fun ys h1 h2 => sortW_is h1 h2)) (fun i σ' F' H' => ∃ (y : Option V) (us : List V), σ' = [some v, some w, none, some (.ref pw), some (.ref pd), some (.ref p), y] ∧ Gr F H F' H' ∧ Same F3 F' ∧ F' p = none ∧ H' p = some (.lst us) ∧
      Paired (rep F') us ((((allWords hour).take i).filter fun w => usefulIn ms (wordTold hour w)).map fun w => (w, wordTold hour w))) (fun F4 H4 g4 => ?_) (fun i z hz σ1 F4 H4 s4 ⟨y, us, eσ, gr, s34, f4, e4, hp4⟩ xv F5 H5 g5 rx => ?_) (fun σ1 F4 H4 s4 ⟨y, us, eσ, gr, s34, f4, e4, hp4⟩ => ?_)
  · exact ⟨none, [], rfl, g12.trans (g3.trans g4), g4.fr, g4.live e f, g4.at e, .nil⟩
  · subst eσ
    obtain ⟨c, hc, rfl⟩ := mem_words.mp (List.mem_of_getElem? hz)
    obtain ⟨lk, wt⟩ := told_at hc
    have xe : xv = V.str (wordOf c) := rx
    subst xe
    have s35 := s34.trans g5.fr
    have w5 : F5 pw = some (.dK kw) := s35 _ _ (g3.fr _ _ ew)
    have d5 : F5 pd = some (.dK kd) := s35 _ _ (g3.fr _ _ ed)
    have hw5 : Paired (DRel F5) kw (wordsOf hour (pcs hour)) := drel_mono (g3.fr.trans s35) hw
    have hd5 : Paired (DRel F5) kd (ms.map fun m => (m, true)) := drel_mono (g3.fr.trans s35) hd
    have get : ∀ {F' H' : Hp} {τ : L2.St} {i j : Nat}, Gr F5 H5 F' H' → τ[i]? = some (some (.ref pw)) → τ[j]? = some (some (.str (wordOf c))) → Ev (tDGet (tVar i) (tVar j)) τ F' H' (toldOf hour c) := fun {F' H' τ i j} g h1 h2 =>
      ev_dget (kvs := kw) (ds := wordsOf hour (pcs hour)) (k := wordOf c) (evv h1) (.inl (g.sub _ _ (g.fr _ _ w5))) (drel_mono g.fr hw5) lk (ev_var (a := wordOf c) h2 rfl)
    refine st_if (b := usefulIn ms (wordTold hour (wordOf c))) g5.sub (EvT.is (et_B (ev_all (ev_map (f := fun m : Int => ms.contains m) (ei_list (get (Grow.refl g5.sub) rfl rfl)) ?_ (fun _ => rfl) (fun j z e F6 H6 y g6 ry =>
      Ev.is (ev_din (kvs := kd) (ds := ms.map fun m => (m, true)) (k := z) (evv rfl) (.inl (g6.sub _ _ (g6.fr _ _ d5))) (drel_mono g6.fr hd5) (ev_var rfl ry)) (hmd z))))) ?_) (fun hb F6 H6 g6 => ?_) fun hb F6 H6 g6 => ?_
    · have := told_len hc hok.1.2
      rw [sizeLine_eq]
      omega
    · rw [wt, List.all_map]
      rfl
    · have e6 := (g5.trans g6).at e4
      have hz6 : us.length < sizeLine := by
        rw [paired_len hp4, List.length_map]
        have a := List.length_filter_le (fun w => usefulIn ms (wordTold hour w)) ((allWords hour).take i)
        have b : ((allWords hour).take i).length ≤ (allWords hour).length := by rw [List.length_take]; exact Nat.min_le_right _ _
        have c' : (allWords hour).length ≤ 1002000 := by
          unfold allWords
          rw [sortW_len, List.length_map]
          exact len_pcs hour hok.1
        rw [sizeLine_eq]
        omega
      refine st_drop0 (ap_run (a := (wordOf c, toldOf hour c)) g6.sub rfl e6 hz6 (ev_tup2 (ev_var (a := wordOf c) rfl rfl) (get g6 rfl rfl)) fun vv F7 H7 g7 r7 => ?_)
      have f7 := (g5.trans (g6.trans g7)).live e4 f4
      refine ⟨F7, g5.fr.trans (g6.fr.trans g7.fr), same_put g7.sub f7, _, _, rfl, (gr.trans (g5.trans (g6.trans g7))).put (.inl n0) f7, s34.trans (g5.fr.trans (g6.fr.trans g7.fr)), f7, upd_same, ?_⟩
      rw [filter_snoc _ _ hz, hb, if_pos rfl, List.map_append]
      refine paired_app (L2.Paired.mapP hp4 fun _ _ z => Rep.mono (g5.fr.trans (g6.fr.trans g7.fr)) z) (.cons ?_ .nil)
      show rep F7 vv (wordOf c, wordTold hour (wordOf c))
      rw [wt]
      exact r7
    · have gg := g5.trans g6
      refine ⟨F6, gg.fr, gg.sub, _, us, rfl, gr.trans gg, s34.trans gg.fr, gg.live e4 f4, gg.at e4, ?_⟩
      rw [filter_snoc _ _ hz, hb, if_neg Bool.false_ne_true, List.append_nil]
      exact L2.Paired.mapP hp4 fun _ _ z => Rep.mono gg.fr z
  · subst eσ
    rw [List.take_length] at hp4
    exact st_retL rfl gr n0 f4 e4 hp4 q
end
end K90
set_option maxHeartbeats 4000000
namespace K90
open PySem PySem.Spec PyProof.Rows L2 SX Ly
/-! ### covers: words with lots -/
abbrev Pc := Str × Int
def un (ws : List Pc) : Int := ws.foldl (fun a p => Builtin.bitOr a p.2) 0
def tx (ws : List Pc) : List Nat := ws.flatMap fun p => p.1.cps.toList ++ [32]
def sz (ws : List Pc) : Int := ((tx ws).length : Nat)
def psz (p : Pc) : Int := (p.1.length : Nat) + 1
theorem psz_pos (p : Pc) : 0 < psz p := by unfold psz; omega
theorem un_snoc (ws : List Pc) (p : Pc) : un (ws ++ [p]) = Builtin.bitOr (un ws) p.2 := by
  unfold un
  rw [List.foldl_append]
  rfl
theorem tx_snoc (ws : List Pc) (p : Pc) : tx (ws ++ [p]) = tx ws ++ (p.1.cps.toList ++ [32]) := by
  unfold tx
  rw [List.flatMap_append]
  simp
theorem sz_snoc (ws : List Pc) (p : Pc) : sz (ws ++ [p]) = sz ws + psz p := by
  unfold sz psz
  have : p.1.cps.toList.length = p.1.length := Array.length_toList
  rw [tx_snoc, List.length_append, List.length_append, this, List.length_singleton]
  omega
theorem sz_nn (ws : List Pc) : 0 ≤ sz ws := by unfold sz; omega
def Of (pcs : List Pc) (ws : List Pc) : Prop := ∀ p ∈ ws, p ∈ pcs
theorem Of.snoc {pcs ws : List Pc} {p : Pc} (h : Of pcs ws) (hp : p ∈ pcs) : Of pcs (ws ++ [p]) := fun q hq => by
  rcases List.mem_append.mp hq with z | z
  · exact h q z
  · rw [List.mem_singleton.mp z]; exact hp
/-- lists from the end -/
theorem snoc_ind {α : Type} {P : List α → Prop} (h0 : P []) (h1 : ∀ l a, P l → P (l ++ [a])) (l : List α) : P l := by
  have : ∀ r : List α, P r.reverse := by
    intro r
    induction r with
    | nil => exact h0
    | cons a r ih => rw [List.reverse_cons]; exact h1 _ _ ih
  have e := this l.reverse
  rwa [List.reverse_reverse] at e
/-- the lots that may come up -/
structure Allowed (pcs : List Pc) (all : List Int) : Prop where
  zero : 0 ∈ all
  step : ∀ k ∈ all, ∀ p ∈ pcs, Builtin.bitOr k p.2 ∈ all
  len : all.length ≤ 100000
theorem Allowed.of {pcs : List Pc} {all : List Int} (A : Allowed pcs all) (ws : List Pc) : Of pcs ws → un ws ∈ all := by
  induction ws using snoc_ind with
  | h0 => exact fun _ => A.zero
  | h1 l a ih =>
    intro h
    rw [un_snoc]
    exact A.step _ (ih fun p hp => h p (List.mem_append_left _ hp)) a (h a (List.mem_append_right _ (by simp)))
def relaxed (ds : List (Int × Int)) (k d : Int) (p : Pc) : Prop := ∃ d', look ds (Builtin.bitOr k p.2) = some d' ∧ d' ≤ d + psz p
structure Sound (pcs : List Pc) (ds : List (Int × Int)) : Prop where
  nd : (ds.map (·.1)).Nodup
  zero : look ds 0 = some 0
  snd : ∀ k d, look ds k = some d → ∃ ws, Of pcs ws ∧ un ws = k ∧ sz ws = d
/-- what costs holds once all below c are done -/
structure Cost (pcs : List Pc) (c : Int) (ds : List (Int × Int)) : Prop extends Sound pcs ds where
  relax : ∀ k d, look ds k = some d → d < c → ∀ p ∈ pcs, relaxed ds k d p
theorem Cost.reach {pcs : List Pc} {c : Int} {ds : List (Int × Int)} (C : Cost pcs c ds) (ws : List Pc) : Of pcs ws → (∃ d, look ds (un ws) = some d ∧ d ≤ sz ws) ∨ c < sz ws := by
  induction ws using snoc_ind with
  | h0 => exact fun _ => .inl ⟨0, C.zero, Int.le_refl _⟩
  | h1 l a ih =>
    intro h
    have ha := h a (List.mem_append_right _ (by simp))
    have ps := psz_pos a
    rw [un_snoc, sz_snoc]
    rcases ih fun p hp => h p (List.mem_append_left _ hp) with ⟨d, e, hd⟩ | hc
    · by_cases z : d < c
      · obtain ⟨d', e', hd'⟩ := C.relax _ d e z a ha
        exact .inl ⟨d', e', by omega⟩
      · exact .inr (by omega)
    · exact .inr (by omega)
theorem Sound.keys {pcs : List Pc} {all : List Int} {ds : List (Int × Int)} (A : Allowed pcs all) (S : Sound pcs ds) : ds.length ≤ all.length := by
  have := nd_len (l := all) S.nd fun k hk => by
    have h := look_some_mem.mpr hk
    cases e : look ds k with
    | none => rw [e] at h; cases h
    | some d =>
      obtain ⟨ws, h1, h2, _⟩ := S.snd k d e
      exact h2 ▸ A.of ws h1
  rwa [List.length_map] at this
theorem Sound.nn {pcs : List Pc} {ds : List (Int × Int)} (S : Sound pcs ds) {k d : Int} (e : look ds k = some d) : 0 ≤ d := by
  obtain ⟨ws, _, _, h⟩ := S.snd k d e
  have := sz_nn ws
  omega
/-- a better way is put down -/
theorem Sound.put {pcs : List Pc} {ds : List (Int × Int)} (S : Sound pcs ds) {k d much : Int} {p : Pc} (e : look ds k = some d) (hp : p ∈ pcs) (hm : much = d + psz p) (lt : much < (look ds (Builtin.bitOr k p.2)).getD (much + 1)) :
    Sound pcs (putD ds (Builtin.bitOr k p.2) much) where
  nd := put_keys _ _ _ S.nd
  zero := by
    rw [look_put]
    by_cases z : Builtin.bitOr k p.2 = 0
    · rw [z, S.zero] at lt
      have := S.nn e
      have := psz_pos p
      have lt : much < 0 := lt
      omega
    · rw [if_neg z]
      exact S.zero
  snd := fun k' d' e' => by
    rw [look_put] at e'
    by_cases z : Builtin.bitOr k p.2 = k'
    · rw [if_pos z] at e'
      cases e'
      obtain ⟨ws, h1, h2, h3⟩ := S.snd k d e
      exact ⟨ws ++ [p], h1.snoc hp, by rw [un_snoc, h2, z], by rw [sz_snoc, h3, hm]⟩
    · rw [if_neg z] at e'
      exact S.snd k' d' e'
/-- ds' betters ds, above c only -/
structure Better (c : Int) (ds ds' : List (Int × Int)) : Prop where
  dn : ∀ k d, look ds k = some d → ∃ d', look ds' k = some d' ∧ d' ≤ d
  lo : ∀ k d, d ≤ c → (look ds k = some d ↔ look ds' k = some d)
theorem Better.refl (c : Int) (ds : List (Int × Int)) : Better c ds ds := ⟨fun k d e => ⟨d, e, Int.le_refl _⟩, fun _ _ _ => Iff.rfl⟩
theorem Better.trans {c : Int} {a b d : List (Int × Int)} (h : Better c a b) (h2 : Better c b d) : Better c a d := ⟨fun k x e => by
  obtain ⟨y, e1, l1⟩ := h.dn k x e
  obtain ⟨z, e2, l2⟩ := h2.dn k y e1
  exact ⟨z, e2, by omega⟩, fun k x l => (h.lo k x l).trans (h2.lo k x l)⟩
theorem Better.put {c : Int} {ds : List (Int × Int)} {late much : Int} (hc : c < much) (lt : much < (look ds late).getD (much + 1)) : Better c ds (putD ds late much) where
  dn := fun k d e => by
    rw [look_put]
    by_cases z : late = k
    · rw [if_pos z]
      subst z
      rw [e] at lt
      exact ⟨much, rfl, Int.le_of_lt lt⟩
    · rw [if_neg z]
      exact ⟨d, e, Int.le_refl _⟩
  lo := fun k d hd => by
    rw [look_put]
    by_cases z : late = k
    · rw [if_pos z]
      subst z
      constructor
      · intro e
        rw [e] at lt
        have lt : much < d := lt
        omega
      · intro e
        cases e
        omega
    · rw [if_neg z]
theorem relaxed_better {c : Int} {ds ds' : List (Int × Int)} {k d : Int} {p : Pc} (b : Better c ds ds') (h : relaxed ds k d p) : relaxed ds' k d p := by
  obtain ⟨d', e, l⟩ := h
  obtain ⟨d2, e2, l2⟩ := b.dn _ _ e
  exact ⟨d2, e2, by omega⟩
/-- what waits -/
structure Wait (c B : Int) (ds : List (Int × Int)) (wt : List (Int × List Int)) : Prop where
  all : ∀ k d, look ds k = some d → c ≤ d → ∃ l, look wt d = some l ∧ k ∈ l
  wl : ∀ d l, look wt d = some l → l.Nodup ∧ ∀ e ∈ l, ∃ d', look ds e = some d' ∧ d' ≤ d
  nd : (wt.map (·.1)).Nodup
  bd : ∀ d l, look wt d = some l → 0 ≤ d ∧ d ≤ B
theorem Wait.len {c B : Int} {ds : List (Int × Int)} {wt : List (Int × List Int)} (W : Wait c B ds wt) : wt.length ≤ (B + 1).toNat := by
  have := nd_len (l := ups 0 (B + 1).toNat) W.nd fun k hk => by
    have h := look_some_mem.mpr hk
    cases e : look wt k with
    | none => rw [e] at h; cases h
    | some l =>
      have := W.bd k l e
      exact mem_ups.mpr (by omega)
  rwa [List.length_map, ups_len] at this
theorem Wait.put {c B : Int} {ds : List (Int × Int)} {wt : List (Int × List Int)} (W : Wait c B ds wt) {late much : Int} (hb : 0 ≤ much ∧ much ≤ B) (lt : much < (look ds late).getD (much + 1)) :
    Wait c B (putD ds late much) (putD wt much ((look wt much).getD [] ++ [late])) where
  all := fun k d e hd => by
    rw [look_put] at e ⊢
    by_cases z : late = k
    · rw [if_pos z] at e
      cases e
      rw [if_pos rfl]
      exact ⟨_, rfl, List.mem_append_right _ (by rw [z]; simp)⟩
    · rw [if_neg z] at e
      obtain ⟨l, e1, h1⟩ := W.all k d e hd
      by_cases z2 : much = d
      · rw [if_pos z2, z2, e1]
        exact ⟨_, rfl, List.mem_append_left _ h1⟩
      · rw [if_neg z2]
        exact ⟨l, e1, h1⟩
  wl := fun d l e => by
    have dec : ∀ x d', look ds x = some d' → ∃ d2, look (putD ds late much) x = some d2 ∧ d2 ≤ d' := fun x d' ex => by
      rw [look_put]
      by_cases z : late = x
      · rw [if_pos z]
        subst z
        rw [ex] at lt
        exact ⟨much, rfl, Int.le_of_lt lt⟩
      · rw [if_neg z]
        exact ⟨d', ex, Int.le_refl _⟩
    have self : look (putD ds late much) late = some much := by rw [look_put, if_pos rfl]
    rw [look_put] at e
    by_cases z : much = d
    · rw [if_pos z] at e
      cases e
      subst z
      cases ew : look wt much with
      | none =>
        refine ⟨by simp, fun x hx => ?_⟩
        have hx : x = late := by simpa using hx
        rw [hx]
        exact ⟨much, self, Int.le_refl _⟩
      | some l =>
        obtain ⟨n1, h1⟩ := W.wl much l ew
        refine ⟨?_, fun x hx => ?_⟩
        · show (l ++ [late]).Nodup
          rw [List.nodup_append]
          refine ⟨n1, by simp, fun x hx y hy exy => ?_⟩
          have hy : y = late := by simpa using hy
          obtain ⟨d', e', l'⟩ := h1 x hx
          rw [exy, hy] at e'
          rw [e'] at lt
          have lt : much < d' := lt
          omega
        · have hx : x ∈ l ++ [late] := hx
          rcases List.mem_append.mp hx with hx | hx
          · obtain ⟨d', e', l'⟩ := h1 x hx
            obtain ⟨d2, e2, l2⟩ := dec x d' e'
            exact ⟨d2, e2, by omega⟩
          · have hx : x = late := by simpa using hx
            rw [hx]
            exact ⟨much, self, Int.le_refl _⟩
    · rw [if_neg z] at e
      obtain ⟨n1, h1⟩ := W.wl d l e
      refine ⟨n1, fun x hx => ?_⟩
      obtain ⟨d', e', l'⟩ := h1 x hx
      obtain ⟨d2, e2, l2⟩ := dec x d' e'
      exact ⟨d2, e2, by omega⟩
  nd := put_keys _ _ _ W.nd
  bd := fun d l e => by
    rw [look_put] at e
    by_cases z : much = d
    · rw [← z]; exact hb
    · rw [if_neg z] at e
      exact W.bd d l e
theorem Wait.up {c B : Int} {ds : List (Int × Int)} {wt : List (Int × List Int)} (W : Wait c B ds wt) : Wait (c + 1) B ds wt := ⟨fun k d e h => W.all k d e (by omega), W.wl, W.nd, W.bd⟩
end K90
set_option maxHeartbeats 4000000
namespace K90
open PySem PySem.Spec PyProof.Rows L2 SX Ly
open Rep
/-! ### the search's live state -/
def dsK (ds : List (Int × Int)) : List (Key × V) := ds.map fun d => (Sum.inl d.1, V.int d.2)
theorem dsK_rel (F : Hp) : ∀ ds : List (Int × Int), Paired (DRel F) (dsK ds) ds
  | [] => .nil
  | d :: r => .cons ⟨rfl, rfl⟩ (dsK_rel F r)
theorem dsK_of {F : Hp} : ∀ {kvs : List (Key × V)} {ds : List (Int × Int)}, Paired (DRel F) kvs ds → kvs = dsK ds
  | _, _, .nil => rfl
  | _, _, .cons (a := a) (b := b) h t => by
    rw [dsK_of t]
    show a :: _ = (Sum.inl b.1, V.int b.2) :: _
    congr 1
    exact Prod.ext h.1 h.2
def wtK (ad : Int → Addr) (wt : List (Int × List Int)) : List (Key × V) := wt.map fun d => (Sum.inl d.1, V.ref (ad d.1))
theorem wtK_val (ad : Int → Addr) (k : Int) : ∀ wt : List (Int × List Int), valV (wtK ad wt) (Sum.inl k) = (look wt k).map fun _ => V.ref (ad k)
  | [] => rfl
  | d :: r => by
    by_cases e : d.1 = k
    · show valV ((Sum.inl d.1, V.ref (ad d.1)) :: wtK ad r) _ = _
      rw [valV_pos (p := ((Sum.inl d.1 : Key), V.ref (ad d.1))) (by rw [e]), look_pos e, e]
      rfl
    · show valV ((Sum.inl d.1, V.ref (ad d.1)) :: wtK ad r) _ = _
      rw [valV_neg (p := ((Sum.inl d.1 : Key), V.ref (ad d.1))) (fun z => e (Sum.inl.inj z)), look_neg e, wtK_val ad k r]
theorem wtK_old (ad : Int → Addr) (wt : List (Int × List Int)) {k : Int} {l l' : List Int} (e : look wt k = some l) : wtK ad (putD wt k l') = wtK ad wt := by
  unfold putD wtK
  rw [look_any, e, if_pos (show (some l).isSome = true from rfl), List.map_map]
  refine List.map_congr_left fun d _ => ?_
  show (fun d : Int × List Int => ((Sum.inl d.1 : Key), V.ref (ad d.1))) (if d.1 = k then (d.1, l') else d) = _
  split <;> rfl
theorem wtK_new (ad : Int → Addr) (wt : List (Int × List Int)) {k : Int} {l : List Int} {z : Addr} (e : look wt k = none) : wtK (fun x => if x = k then z else ad x) (putD wt k l) = putK (wtK ad wt) (Sum.inl k) (.ref z) := by
  have e1 : valV (wtK ad wt) (Sum.inl k) = none := by rw [wtK_val, e]; rfl
  rw [putK_new _ e1]
  unfold putD
  rw [look_any, e, if_neg (by simp)]
  unfold wtK
  rw [List.map_append]
  congr 1
  · refine List.map_congr_left fun d hd => ?_
    have : d.1 ≠ k := fun z => by
      have := look_some_mem (k := k) (ds := wt) |>.mpr (List.mem_map.mpr ⟨d, hd, z⟩)
      rw [e] at this
      cases this
    show (_, V.ref (if d.1 = k then z else ad d.1)) = _
    rw [if_neg this]
  · show [(_, V.ref (if k = k then z else ad k))] = _
    rw [if_pos rfl]
structure LS (F0 H0 : Hp) (p q : Addr) (c' : Int) (ds : List (Int × Int)) (wt : List (Int × List Int)) (F H : Hp) : Prop where
  gr : Gr F0 H0 F H
  ne : p ≠ q
  np : H0 p = none
  nq : H0 q = none
  fp : F p = none
  fq : F q = none
  hp : H p = some (.dK (dsK ds))
  ex : ∃ ad : Int → Addr, H q = some (.dK (wtK ad wt)) ∧ (∀ k l, look wt k = some l → H (ad k) = some (.lst (l.map V.int)) ∧ H0 (ad k) = none ∧ (c' ≤ k → F (ad k) = none)) ∧ ∀ k k' l l', look wt k = some l → look wt k' = some l' → ad k = ad k' → k = k'
section
variable {F0 H0 F H F1 H1 : Hp} {p q : Addr} {c' : Int} {ds : List (Int × Int)} {wt : List (Int × List Int)}
theorem LS.grow (L : LS F0 H0 p q c' ds wt F H) (g : Gr F H F1 H1) : LS F0 H0 p q c' ds wt F1 H1 := by
  obtain ⟨ad, h1, h2, h3⟩ := L.ex
  exact ⟨L.gr.trans g, L.ne, L.np, L.nq, g.live L.hp L.fp, g.live h1 L.fq, g.at L.hp, ad, g.at h1, fun k l e => by
    obtain ⟨a, b, c⟩ := h2 k l e
    exact ⟨g.at a, b, fun z => g.live a (c z)⟩, h3⟩
theorem LS.putc {kvs : List (Key × V)} (L : LS F0 H0 p q c' ds wt F H) {k v : Int} (h : Paired (DRel F) kvs (putD ds k v)) : LS F0 H0 p q c' (putD ds k v) wt F (upd H p (.dK kvs)) := by
  obtain ⟨ad, h1, h2, h3⟩ := L.ex
  rw [dsK_of h]
  refine ⟨L.gr.put (.inl L.np) L.fp, L.ne, L.np, L.nq, L.fp, L.fq, upd_same, ad, ?_, fun k l e => ?_, h3⟩
  · rw [upd_ne (fun z => L.ne z.symm)]
    exact h1
  · obtain ⟨a, b, c⟩ := h2 k l e
    refine ⟨?_, b, c⟩
    rw [upd_ne (fun z => by rw [z, L.hp] at a; cases a)]
    exact a
/-- the list of c is frozen -/
theorem LS.freeze (L : LS F0 H0 p q c' ds wt F H) {l : List Int} (e : look wt c' = some l) : ∃ (F1 : Hp) (a : Addr), Same F F1 ∧ LS F0 H0 p q (c' + 1) ds wt F1 H ∧ F1 a = some (.lst (l.map V.int)) ∧ ∀ kw, H q = some (.dK kw) → valV kw (Sum.inl c') = some (.ref a) := by
  obtain ⟨ad, h1, h2, h3⟩ := L.ex
  obtain ⟨a1, a2, a3⟩ := h2 c' l e
  have f := a3 (Int.le_refl _)
  refine ⟨upd F (ad c') (.lst (l.map V.int)), ad c', same_ice (Same.refl _) f, ⟨L.gr.freeze a2 f a1, L.ne, L.np, L.nq, ?_, ?_, L.hp, ad, h1, fun k l' e' => ?_, h3⟩, upd_same, fun kw hk => ?_⟩
  · rw [upd_ne (fun z => by rw [← z, L.hp] at a1; cases a1)]
    exact L.fp
  · rw [upd_ne (fun z => by rw [← z, h1] at a1; cases a1)]
    exact L.fq
  · obtain ⟨b1, b2, b3⟩ := h2 k l' e'
    refine ⟨b1, b2, fun hk => ?_⟩
    rw [upd_ne (fun z => by
      have := h3 _ _ _ _ e' e z
      omega)]
    exact b3 (by omega)
  · rw [h1] at hk
    cases hk
    rw [wtK_val, e]
    rfl
theorem LS.pass (L : LS F0 H0 p q c' ds wt F H) : LS F0 H0 p q (c' + 1) ds wt F H := by
  obtain ⟨ad, h1, h2, h3⟩ := L.ex
  exact ⟨L.gr, L.ne, L.np, L.nq, L.fp, L.fq, L.hp, ad, h1, fun k l e => ⟨(h2 k l e).1, (h2 k l e).2.1, fun z => (h2 k l e).2.2 (by omega)⟩, h3⟩
/-- waiting.setdefault(much, []).append(late) -/
theorem LS.app (L : LS F0 H0 p q c' ds wt F H) {σ : L2.St} {K : PySem.W.Frag} {much late : Int} {D : Hp → Prop} (hq : σ[3]? = some (some (.ref q))) (hm : σ[9]? = some (some (.int much))) (hl : σ[8]? = some (some (.int late))) (hc : c' ≤ much) (hw : wt.length < sizeLine) (hz : ((look wt much).getD []).length < sizeLine)
    (k : ∀ F1 H1, Same F F1 → Same F1 H1 → LS F0 H0 p q c' ds (putD wt much ((look wt much).getD [] ++ [late])) F1 H1 → D H1) (s : Same F H) :
    tBM K "list" rAppend (tDSetd (tVar 3) (tVar 9) (tLst tNil)) (tCons (tVar 8) tNil) σ H fun _ H' => D H' := by
  obtain ⟨ad, h1, h2, h3⟩ := L.ex
  refine ⟨_, hq, q, rfl, .inl ⟨_, .inl h1⟩, ⟨_, hm, (by exact Nat.zero_le _), fun z nz => ?_⟩⟩
  have zq : q ≠ z := fun e => by rw [← e, h1] at nz; cases nz
  have zp : p ≠ z := fun e => by rw [← e, L.hp] at nz; cases nz
  have n0 : H0 z = none := by
    cases e0 : H0 z with
    | none => rfl
    | some o => rw [L.gr.at e0] at nz; cases nz
  have fz : F z = none := by
    cases e0 : F z with
    | none => rfl
    | some o => rw [s _ _ e0] at nz; cases nz
  have g := Grow.lay (M := fun _ => False) (o := .lst []) s nz
  have L1 := L.grow g
  have e1 : upd H z (.lst []) q = some (.dK (wtK ad wt)) := by rw [upd_ne zq]; exact h1
  refine ⟨wtK ad wt, Sum.inl much, e1, rfl, by unfold wtK; rw [List.length_map]; exact hw, fun v ev => ?_, fun ev => ?_⟩
  · rw [wtK_val] at ev
    cases el : look wt much with
    | none => rw [el] at ev; cases ev
    | some l =>
      rw [el] at ev
      cases ev
      obtain ⟨a1, a2, a3⟩ := h2 much l el
      have az : ad much ≠ z := fun e => by rw [e] at a1; rw [a1] at nz; cases nz
      have aq : q ≠ ad much := fun e => by rw [← e, h1] at a1; cases a1
      have ap : p ≠ ad much := fun e => by rw [← e, L.hp] at a1; cases a1
      have e2 : upd H z (.lst []) (ad much) = some (.lst (l.map V.int)) := by rw [upd_ne az]; exact a1
      refine ⟨.inl ⟨rfl, _, .inl (.inl e2)⟩, ⟨_, hl, ad much, _, _, rfl, rfl, e2, ?_, ?_⟩⟩
      · rw [List.length_map]
        rw [el] at hz
        exact hz
      · refine k F _ (Same.refl _) (same_put (g.sub) (a3 hc)) ⟨L1.gr.put (.inl a2) (a3 hc), L.ne, L.np, L.nq, L.fp, L.fq, ?_, ad, ?_, fun k' l' e' => ?_, fun k1 k2 l1 l2 x1 x2 x3 => ?_⟩
        · rw [upd_ne ap, upd_ne zp]
          exact L.hp
        · rw [wtK_old ad wt el, upd_ne aq]
          exact e1
        · rw [look_put] at e'
          by_cases z2 : much = k'
          · rw [if_pos z2, el] at e'
            cases e'
            subst z2
            refine ⟨?_, a2, a3⟩
            rw [upd_same]
            show _ = some (HO.lst ((l ++ [late]).map V.int))
            rw [List.map_append]
            rfl
          · rw [if_neg z2] at e'
            obtain ⟨b1, b2, b3⟩ := h2 k' l' e'
            refine ⟨?_, b2, b3⟩
            rw [upd_ne (fun x => z2 (h3 _ _ _ _ el e' x.symm)), upd_ne (fun x => by rw [x] at b1; rw [b1] at nz; cases nz)]
            exact b1
        · have back : ∀ k l, look (putD wt much ((some l).getD [] ++ [late])) k = some l → True := fun _ _ _ => trivial
          have old : ∀ {k l}, look (putD wt much ((look wt much).getD [] ++ [late])) k = some l → ∃ l', look wt k = some l' := fun {k l} e => by
            rw [look_put] at e
            by_cases z2 : much = k
            · exact ⟨_, z2 ▸ el⟩
            · rw [if_neg z2] at e
              exact ⟨l, e⟩
          obtain ⟨l1', y1⟩ := old x1
          obtain ⟨l2', y2⟩ := old x2
          exact h3 _ _ _ _ y1 y2 x3
  · rw [wtK_val] at ev
    have el : look wt much = none := by
      cases z2 : look wt much with
      | none => rfl
      | some l => rw [z2] at ev; cases ev
    have e2 : upd (upd H z (.lst [])) q (.dK (putK (wtK ad wt) (Sum.inl much) (.ref z))) z = some (.lst []) := by rw [upd_ne (fun x => zq x.symm)]; exact upd_same
    refine ⟨.inl ⟨rfl, _, .inl (.inl e2)⟩, ⟨_, hl, z, _, _, rfl, rfl, e2, by rw [sizeLine_eq]; decide, ?_⟩⟩
    refine k F _ (Same.refl _) (same_put (same_put g.sub L.fq) fz) ⟨(L1.gr.put (.inl L.nq) L.fq).put (.inl n0) fz, L.ne, L.np, L.nq, L.fp, L.fq, ?_, fun x => if x = much then z else ad x, ?_, fun k' l' e' => ?_, fun k1 k2 l1 l2 x1 x2 x3 => ?_⟩
    · rw [upd_ne zp, upd_ne L.ne, upd_ne zp]
      exact L.hp
    · rw [upd_ne zq, upd_same, wtK_new ad wt el]
    · rw [look_put] at e'
      by_cases z2 : much = k'
      · rw [if_pos z2, el] at e'
        cases e'
        subst z2
        dsimp only
        rw [if_pos rfl]
        exact ⟨upd_same, n0, fun _ => fz⟩
      · rw [if_neg z2] at e'
        obtain ⟨b1, b2, b3⟩ := h2 k' l' e'
        have az : ad k' ≠ z := fun e => by rw [e] at b1; rw [b1] at nz; cases nz
        dsimp only
        rw [if_neg (fun x => z2 x.symm)]
        refine ⟨?_, b2, b3⟩
        rw [upd_ne az, upd_ne (fun x => by rw [x, h1] at b1; cases b1), upd_ne az]
        exact b1
    · rw [look_put] at x1 x2
      dsimp only at x3
      by_cases y1 : much = k1
      · by_cases y2 : much = k2
        · rw [← y1, ← y2]
        · rw [if_neg y2] at x2
          obtain ⟨b1, _, _⟩ := h2 k2 l2 x2
          rw [if_pos y1.symm, if_neg (fun x => y2 x.symm)] at x3
          rw [← x3] at b1
          rw [b1] at nz
          cases nz
      · rw [if_neg y1] at x1
        obtain ⟨b1, _, _⟩ := h2 k1 l1 x1
        by_cases y2 : much = k2
        · rw [if_neg (fun x => y1 x.symm), if_pos y2.symm] at x3
          rw [x3] at b1
          rw [b1] at nz
          cases nz
        · rw [if_neg y2] at x2
          rw [if_neg (fun x => y1 x.symm), if_neg (fun x => y2 x.symm)] at x3
          exact h3 _ _ _ _ x1 x2 x3
end
end K90
set_option maxHeartbeats 4000000
namespace K90
open PySem PySem.Spec PyProof.Rows L2 SX Ly
open Rep
structure CcPre (pcs : List Pc) (whole B : Int) : Prop where
  len : pcs.length ≤ 2000000
  wl : ∀ p ∈ pcs, p.1.length ≤ 13
  al : ∃ all, Allowed pcs all
  ws : ∃ ws, Of pcs ws ∧ un ws = whole ∧ sz ws ≤ B
  b : 0 ≤ B ∧ B ≤ 100000
structure CcRes (pcs : List Pc) (whole B best : Int) (ds : List (Int × Int)) : Prop where
  at_ : look ds whole = some best
  le : best ≤ B
  co : Cost pcs best ds
def SpCc : Sp := fun vs H Q _ => ∃ (F : Hp) (v : V) (pcs : List Pc) (whole B : Int), vs = [v, .int whole] ∧ Same F H ∧ rep F v pcs ∧ CcPre pcs whole B ∧
  ∀ p ds best F' H', Gr F H F' H' → H p = none → F' p = none → H' p = some (.dK (dsK ds)) → CcRes pcs whole B best ds → Q (.ref p) H'
theorem SpCc.len (vs : List V) (H : Hp) (Q : VK) (E : XK) (h : SpCc vs H Q E) : vs.length = 2 := by obtain ⟨_, _, _, _, _, rfl, _⟩ := h; rfl
/-- the middle of the search, at cost c -/
structure MS (pcs : List Pc) (F0 H0 : Hp) (p q : Addr) (c B : Int) (ds1 ds : List (Int × Int)) (wt : List (Int × List Int)) (F H : Hp) : Prop where
  ls : LS F0 H0 p q (c + 1) ds wt F H
  co : Cost pcs c ds
  wa : Wait c B ds wt
  be : Better c ds1 ds
theorem MS.grow {pcs : List Pc} {F0 H0 F H F1 H1 : Hp} {p q : Addr} {c B : Int} {ds1 ds : List (Int × Int)} {wt : List (Int × List Int)} (M : MS pcs F0 H0 p q c B ds1 ds wt F H) (g : Gr F H F1 H1) : MS pcs F0 H0 p q c B ds1 ds wt F1 H1 := ⟨M.ls.grow g, M.co, M.wa, M.be⟩
section
variable {P : Program} {w : World} {K : PySem.W.Frag} {mg : Str → Option Value} {base : Heap}
theorem ok_cheapest_covers (T : Tx K mg) : Cal P w K mg base 1 "cheapest_covers" SpCc [] := by
  refine cal_of T.t_cheapest_covers sc_cheapest_covers (fun _ _ _ _ _ _ us hl => match us, hl with | [_, _], _ => rfl) SpCc.len (fun cdv A outer s H vs Q E hr h => ?_)
  have nd := sc_cheapest_covers.nd
  have hu := hu_of hr
  refine ⟨_, PSs.nox (pss_cons (ps_par (i := 2) (j := 3) (by rfl) nd rfl rfl (by decide) rfl rfl (pa_cons (pe_disp (pps_cons pe_int pe_int pps_nil) (by rfl) (by rfl) (fun z => by cases z) (by decide)) (pa_cons (pe_disp (pps_cons pe_int (pe_lst (pa_cons pe_int pa_nil)) pps_nil) (by rfl) (by rfl) (fun z => by cases z) (by decide)) pa_nil)) (by rfl))
    (pss_cons (ps_set (i := 4) nd rfl (by first | exact Or.inl rfl | exact Or.inr rfl) pe_int)
    (pss_cons (ps_while PassesOwn.never (PW.pt (pw_or (pt_cmp (pc_dnotin hu (pv 1) (pv 2)) rfl) (pw_or1 (pt_cmpR (o_lt) (pv 4) (pe_dget hu (pv 2) (pv 1) (fun _ _ => rfl)) (nomark _)))))
    (pss_cons (ps_for PassesOwn.never rfl (show PI _ _ _ (iList K _) from (pi_list (pe_dget2 hu (pv 3) (pv 4) (pe_lst pa_nil) ⟨rfl, rfl, rfl, rfl⟩))) (pg_name (i := 5) nd rfl (by first | exact Or.inl rfl | exact Or.inr rfl))
    (pss_one (ps_if (pt_cmpR (op_eq) (pe_dget hu (pv 2) (pv 5) (fun _ _ => rfl)) (pv 4) (nomark _))
    (pss_one (ps_for PassesOwn.never rfl (show PI _ _ _ (iList K _) from (pi_list (pv 0))) (show PG _ _ (gTup K 2 _) from (pg_tup (by rfl) (pgs_cons (pg_name (i := 6) nd rfl (by first | exact Or.inl rfl | exact Or.inr rfl)) (pgs_cons (pg_name (i := 7) nd rfl (by first | exact Or.inl rfl | exact Or.inr rfl)) pgs_nil))))
    (pss_cons (ps_par (i := 8) (j := 9) (by rfl) nd rfl rfl (by decide) rfl rfl (pa_cons (pe_op o_or (pv 5) (pv 7)) (pa_cons (pe_op o_add (pe_op o_add (pv 4) (pe_callB (o_lens) (by rfl) (T.m_len) (by decide +kernel) (pa_cons (pv 6) pa_nil))) pe_int) pa_nil)) (by rfl))
    (pss_one (ps_if (PW.pt (pw_and (pt_cmpR (op_ne) (pv 8) (pv 5) (nomark _)) (pw_and1 (pt_cmpR (o_lt) (pv 9) (pe_dget2 hu (pv 2) (pv 8) (pe_op o_add (pv 9) pe_int) ⟨rfl, rfl, rfl, rfl⟩) (nomark _)))))
    (pss_cons (ps_dput hu (pv 2) (pv 8) (pv 9) rfl)
    (pss_one (ps_expr (pe_bm PySem.F.plainAttrs_list PySem.F.slot_list_append PySem.F.type_list_append mt_append (pe_dsetd (pv 3) (pv 9) (pe_lst pa_nil) ⟨rfl, rfl, rfl, rfl⟩) (pa_cons (pv 8) pa_nil)))))
    pss_nil)))))
    pss_nil)))
    (pss_one (ps_set (i := 4) nd rfl (by first | exact Or.inl rfl | exact Or.inr rfl) (pe_op o_add (pv 4) pe_int)))))
    (pss_one (ps_ret (pv 2)))))), ?_⟩
  obtain ⟨F, v, pcs, whole, B, rfl, s, r, pre, q⟩ := h
  obtain ⟨all, A⟩ := pre.al
  have b0 := pre.b
  have pl := pre.len
  have aln := A.len
  -- costs, waiting
  intro p np
  have fp : F p = none := by
    cases e : F p with
    | none => rfl
    | some o => rw [s _ _ e] at np; cases np
  refine ⟨upd_same, [(Sum.inl 0, .int 0)], rfl, by decide, ?_⟩
  intro q' nq1
  have pq : p ≠ q' := fun e => by rw [e, upd_same] at nq1; cases nq1
  have nq : H q' = none := by rw [upd_ne (fun e => pq e.symm), upd_ne (fun e => pq e.symm)] at nq1; exact nq1
  have fq : F q' = none := by
    cases e : F q' with
    | none => rfl
    | some o => rw [s _ _ e] at nq; cases nq
  refine ⟨(by show 1 ≤ sizeLine; rw [sizeLine_eq]; decide), fun a na => ?_⟩
  have aq : a ≠ q' := fun e => by rw [e, upd_same] at na; cases na
  have ap : a ≠ p := fun e => by rw [e, upd_ne pq, upd_same] at na; cases na
  have na0 : H a = none := by rw [upd_ne aq, upd_ne ap, upd_ne ap] at na; exact na
  have fa0 : F a = none := by
    cases e : F a with
    | none => rfl
    | some o => rw [s _ _ e] at na0; cases na0
  refine ⟨by rw [upd_ne (fun e => aq e.symm)]; exact upd_same, [(Sum.inl 0, .ref a)], rfl, (by show 1 ≤ 15; decide), ?_⟩
  refine ⟨_, _, rfl, ?_⟩
  generalize hH : upd (upd (upd (upd (upd H p (.dK [])) p (.dK (mergeK [] [(Sum.inl 0, V.int 0)]))) q' (.dK [])) a (.lst [V.int 0])) q' (.dK (mergeK [] [(Sum.inl 0, V.ref a)])) = HH
  have L0 : LS F H p q' 0 [(0, 0)] [(0, [0])] F HH := by
    subst hH
    refine ⟨(((((Grow.refl s).put (.inl np) fp).put (.inl np) fp).put (.inl nq) fq).put (.inl na0) fa0).put (.inl nq) fq, pq, np, nq, fp, fq, ?_, fun _ => a, ?_, fun k l e => ?_, fun k k' l l' e e' _ => ?_⟩
    · rw [upd_ne pq, upd_ne (fun e => ap e.symm), upd_ne pq, upd_same]
      rfl
    · rw [upd_same]
      rfl
    · have : k = 0 ∧ l = [0] := by
        have h := look_mem e
        simpa using h
      rw [this.2]
      refine ⟨?_, na0, fun _ => fa0⟩
      rw [upd_ne aq, upd_same]
      rfl
    · have h1 := look_mem e
      have h2 := look_mem e'
      simp at h1 h2
      rw [h1.1, h2.1]
  have s0 : Same F HH := L0.gr.sub
  have C0 : Cost pcs 0 [(0, 0)] := ⟨⟨by simp, rfl, fun k d e => by
    have h := look_mem e
    have : k = 0 ∧ d = 0 := by simpa using h
    exact ⟨[], fun _ h => absurd h (by simp), by rw [this.1]; rfl, by rw [this.2]; rfl⟩⟩, fun k d e hd => by
    have h := look_mem e
    have : k = 0 ∧ d = 0 := by simpa using h
    omega⟩
  have W0 : Wait 0 (B + 14) [(0, 0)] [(0, [0])] := ⟨fun k d e hd => by
      have h := look_mem e
      have : k = 0 ∧ d = 0 := by simpa using h
      rw [this.1, this.2]
      exact ⟨[0], rfl, by simp⟩, fun d l e => by
      have h := look_mem e
      have : d = 0 ∧ l = [0] := by simpa using h
      rw [this.1, this.2]
      exact ⟨by simp, fun e he => by
        have : e = 0 := by simpa using he
        rw [this]
        exact ⟨0, rfl, Int.le_refl _⟩⟩, by simp, fun d l e => by
      have h := look_mem e
      have : d = 0 ∧ l = [0] := by simpa using h
      omega⟩
  obtain ⟨ws0, of0, un0, sz0⟩ := pre.ws
  dsimp only
  refine st_asg s0 ev_i fun vc F1 H1 g1 rc => ?_
  have rc : vc = V.int 0 := rc
  subst rc
  refine st_while (F := F1) (H := H1) (fun m σ F' H' => ∃ (c : Int) (ds : List (Int × Int)) (wt : List (Int × List Int)) (y5 y6 y7 y8 y9 : Option V), σ = [some v, some (.int whole), some (.ref p), some (.ref q'), some (.int c), y5, y6, y7, y8, y9] ∧ m = (B - c).toNat ∧ 0 ≤ c ∧ LS F H p q' c ds wt F' H' ∧ Cost pcs c ds ∧ Wait c (B + 14) ds wt)
    (B - 0).toNat g1.sub ⟨0, _, _, none, none, none, none, none, rfl, rfl, by omega, L0.grow g1, C0, W0⟩ fun m σ1 F1 H1 s1 ⟨c, ds, wt, y5, y6, y7, y8, y9, eσ, em, c0, L, C, W⟩ => ?_
  subst eσ
  have hdl := C.toSound.keys A
  refine ⟨!(look ds whole).isSome || decide (c < (look ds whole).getD 0), et_or (et_B (ev_dnotin (ds := ds) (k := whole) (evv rfl) (.inl L.hp) (dsK_rel _ _) (ev_var rfl rfl))) fun e => et_test (ev_lt (ev_var (a := c) rfl rfl) (ev_dget (ds := ds) (k := whole) (a := (look ds whole).getD 0) (evv rfl) (.inl L.hp) (dsK_rel _ _) ?_ (ev_var rfl rfl))), fun F2 H2 g2 => ?_⟩
  · cases z : look ds whole with
    | none => rw [z] at e; cases e
    | some d => rfl
  have L2 := L.grow g2
  split
  · rename_i hb
    have hcB : c < B := by
      rcases C.reach ws0 of0 with ⟨d, e, hd⟩ | h
      · rw [un0] at e
        rw [e] at hb
        have : c < d := by simpa using hb
        omega
      · omega
    -- what waits at c
    have key : ∃ (l : List Int) (F3 : Hp), Same F2 F3 ∧ Same F3 H2 ∧ LS F H p q' (c + 1) ds wt F3 H2 ∧ (∀ k, look ds k = some c → k ∈ l) ∧ l.length ≤ 100000 ∧ (∀ e ∈ l, ∃ d, look ds e = some d ∧ d ≤ c) ∧
        Ev (tDGet2 (tVar 3) (tVar 4) (tLst tNil)) [some v, some (.int whole), some (.ref p), some (.ref q'), some (.int c), y5, y6, y7, y8, y9] F3 H2 l := by
      obtain ⟨kw, hkw⟩ : ∃ kw, H2 q' = some (.dK kw) := by
        obtain ⟨ad, h1, _⟩ := L2.ex
        exact ⟨_, h1⟩
      cases el : look wt c with
      | none =>
        refine ⟨[], F2, Same.refl _, g2.sub, L2.pass, fun k e => ?_, by simp, fun e he => absurd he (by simp), fun F4 H4 g4 Q k => ?_⟩
        · obtain ⟨l, e1, _⟩ := W.all k c e (Int.le_refl _)
          rw [el] at e1
          cases e1
        · have hv : valV kw (Sum.inl c) = none := by
            obtain ⟨ad, h1, _⟩ := L2.ex
            rw [h1] at hkw
            cases hkw
            rw [wtK_val, el]
            rfl
          refine ⟨.ref q', rfl, q', rfl, .inl ⟨kw, .inl (g4.at hkw)⟩, ⟨_, rfl, ?_⟩⟩
          refine (ev_lst0 (α := Int) (F := F4) (H := H4)).go g4.sub fun z F5 H5 g5 rz => ?_
          exact ⟨none, .inl ⟨kw, Sum.inl c, .inl ((g4.trans g5).at hkw), rfl, hv.symm⟩, k z F5 H5 g5 rz⟩
      | some l =>
        obtain ⟨F3, a', sF, L3, fa', hval⟩ := L2.freeze el
        have nl := W.wl c l el
        have ll := nd_len (l := all) nl.1 fun x hx => by
          obtain ⟨d', e', _⟩ := nl.2 x hx
          obtain ⟨ws, h1, h2, _⟩ := C.snd x d' e'
          exact h2 ▸ A.of ws h1
        refine ⟨l, F3, sF, L3.gr.sub, L3, fun k e => ?_, by omega, nl.2, fun F4 H4 g4 Q k => ?_⟩
        · obtain ⟨l', e1, h1⟩ := W.all k c e (Int.le_refl _)
          rw [el] at e1
          cases e1
          exact h1
        · refine ⟨.ref q', rfl, q', rfl, .inl ⟨kw, .inl (g4.at hkw)⟩, ⟨_, rfl, ?_⟩⟩
          refine (ev_lst0 (α := Int) (F := F4) (H := H4)).go g4.sub fun z F5 H5 g5 rz => ?_
          exact ⟨some (.ref a'), .inl ⟨kw, Sum.inl c, .inl ((g4.trans g5).at hkw), rfl, (hval kw hkw).symm⟩, k (.ref a') F5 H5 g5 (rep_lst ((g4.trans g5).fr _ _ fa') (ints_paired l))⟩
    obtain ⟨l, F3, sF, s3, L3, lall, llen, lin, hev⟩ := key
    refine st_for (F := F3) (xs := l) s3 (ei_list hev) (fun i σ' F' H' => ∃ (ds2 : List (Int × Int)) (wt2 : List (Int × List Int)) (y5 y6 y7 y8 y9 : Option V), σ' = [some v, some (.int whole), some (.ref p), some (.ref q'), some (.int c), y5, y6, y7, y8, y9] ∧ MS pcs F H p q' c (B + 14) ds ds2 wt2 F' H' ∧ ∀ lot ∈ l.take i, look ds lot = some c → ∀ x ∈ pcs, relaxed ds2 lot c x) (fun F4 H4 g4 => ?_) (fun i lot hlot σ2 F4 H4 s4 ⟨ds2, wt2, z5, z6, z7, z8, z9, eσ, M, hdone⟩ xv F5 H5 g5 rx => ?_) (fun σ2 F4 H4 s4 ⟨ds2, wt2, z5, z6, z7, z8, z9, eσ, M, hdone⟩ => ?_)
    · exact ⟨ds, wt, _, _, _, _, _, rfl, ⟨L3.grow g4, C, W, Better.refl _ _⟩, fun lot h => absurd h (by simp)⟩
    · subst eσ
      have rx : xv = V.int lot := rx
      subst rx
      have M5 := M.grow g5
      obtain ⟨dl, el, hdl'⟩ := lin lot (List.mem_of_getElem? hlot)
      have el2 : look ds2 lot = some dl := (M.be.lo lot dl hdl').mp el
      refine st_if (b := decide (dl = c)) g5.sub (et_test (ev_eqI (ev_dget (ds := ds2) (k := lot) (a := dl) (evv rfl) (.inl M5.ls.hp) (dsK_rel _ _) el2 (ev_var rfl rfl)) (ev_var (a := c) rfl rfl))) (fun hb2 F6 H6 g6 => ?_) fun hb2 F6 H6 g6 => ?_
      · have hb2 := of_decide_eq_true hb2
        subst hb2
        have M6 := M5.grow g6
        have rp6 : rep F6 v pcs := Rep.mono M6.ls.gr.fr r
        refine st_for (xs := pcs) g6.sub (ei_list (ev_var (a := pcs) rfl rp6)) (fun j σ' F' H' => ∃ (ds3 : List (Int × Int)) (wt3 : List (Int × List Int)) (y6 y7 y8 y9 : Option V), σ' = [some v, some (.int whole), some (.ref p), some (.ref q'), some (.int dl), some (.int lot), y6, y7, y8, y9] ∧ Same F4 F' ∧ MS pcs F H p q' dl (B + 14) ds ds3 wt3 F' H' ∧ Better dl ds2 ds3 ∧ ∀ x ∈ pcs.take j, relaxed ds3 lot dl x) (fun F7 H7 g7 => ?_) (fun j pc hpc σ3 F7 H7 s7 ⟨ds3, wt3, z6, z7, z8, z9, eσ, s47, M7, be7, hx⟩ xv F8 H8 g8 rx => ?_) (fun σ3 F7 H7 s7 ⟨ds3, wt3, z6, z7, z8, z9, eσ, s47, M7, be7, hx⟩ => ?_)
        · exact ⟨ds2, wt2, _, _, _, _, rfl, g5.fr.trans (g6.fr.trans g7.fr), M6.grow g7, Better.refl _ _, fun x h => absurd h (by simp)⟩
        · subst eσ
          have hpm := List.mem_of_getElem? hpc
          have hwl := pre.wl pc hpm
          refine g_pair g8.sub rx fun vw vt rw' rt => ?_
          have rw' : vw = V.str pc.1 := rw'
          have rt : vt = V.int pc.2 := rt
          subst rw' rt
          refine st_par g8.sub (ev_or (ev_var (a := lot) rfl rfl) (ev_var (a := pc.2) rfl rfl)) (ev_add (ev_add (ev_var (a := dl) rfl rfl) (ev_lenS (x := pc.1) (by rw [sizeLine_eq]; omega) (ev_var rfl rfl))) ev_i) fun vl vm F9 H9 g9 rl rm => ?_
          have rl : vl = V.int (Builtin.bitOr lot pc.2) := rl
          have rm : vm = V.int (dl + pc.1.length + 1) := rm
          subst rl rm
          have pp := psz_pos pc
          have em : (dl : Int) + pc.1.length + 1 = dl + psz pc := by unfold psz; omega
          rw [em]
          have M9 := (M7.grow g8).grow g9
          have el3 : look ds3 lot = some dl := (be7.lo lot dl (Int.le_refl _)).mp el2
          have hdl3 := M9.co.toSound.keys A
          have hwl3 := M9.wa.len
          have s49 := s47.trans (g8.fr.trans g9.fr)
          refine st_if (b := !decide (Builtin.bitOr lot pc.2 = lot) && decide (dl + psz pc < (look ds3 (Builtin.bitOr lot pc.2)).getD (dl + psz pc + 1))) g9.sub (et_and (et_test (ev_neI (ev_var (a := Builtin.bitOr lot pc.2) rfl rfl) (ev_var (a := lot) rfl rfl))) fun _ => et_test (ev_lt (ev_var (a := dl + psz pc) rfl rfl) (ev_dget2 (ds := ds3) (k := Builtin.bitOr lot pc.2) (evv rfl) (.inl M9.ls.hp) (dsK_rel _ _) (ev_var rfl rfl) (ev_add (ev_var (a := dl + psz pc) rfl rfl) ev_i)))) (fun hb3 F10 H10 g10 => ?_) fun hb3 F10 H10 g10 => ?_
          · have hlt : dl + psz pc < (look ds3 (Builtin.bitOr lot pc.2)).getD (dl + psz pc + 1) := by
              rw [Bool.and_eq_true] at hb3
              exact of_decide_eq_true hb3.2
            have M10 := M9.grow g10
            refine st_dput (ds := ds3) (k := Builtin.bitOr lot pc.2) (a := dl + psz pc) g10.sub (evv rfl) M10.ls.hp (dsK_rel _ _) (by rw [sizeLine_eq]; omega) (ev_var rfl rfl) (ev_var rfl rfl) fun kvs' F11 H11 g11 e11 hp11 => ?_
            have L11 := (M10.ls.grow g11).putc hp11
            have psz14 : psz pc ≤ 14 := by unfold psz; omega
            have hwz : ((look wt3 (dl + psz pc)).getD []).length < sizeLine := by
              rw [sizeLine_eq]
              cases z : look wt3 (dl + psz pc) with
              | none => show 0 < 16777216; decide
              | some l3 =>
                have nl := M10.wa.wl _ l3 z
                have := nd_len (l := all) nl.1 fun x hx => by
                  obtain ⟨d', e', _⟩ := nl.2 x hx
                  obtain ⟨ws, h1, h2, _⟩ := M10.co.snd x d' e'
                  exact h2 ▸ A.of ws h1
                show l3.length < 16777216
                omega
            refine st_drop0 (L11.app rfl rfl rfl (by omega) (by rw [sizeLine_eq]; omega) hwz (fun F12 H12 s12 s12' L12 => ?_) L11.gr.sub)
            have bp : Better dl ds3 (putD ds3 (Builtin.bitOr lot pc.2) (dl + psz pc)) := Better.put (by omega) hlt
            refine ⟨F12, g8.fr.trans (g9.fr.trans (g10.fr.trans (g11.fr.trans s12))), s12', putD ds3 (Builtin.bitOr lot pc.2) (dl + psz pc), putD wt3 (dl + psz pc) ((look wt3 (dl + psz pc)).getD [] ++ [Builtin.bitOr lot pc.2]), _, _, _, _, rfl, s49.trans (g10.fr.trans (g11.fr.trans s12)), ⟨L12, ⟨M9.co.toSound.put el3 hpm rfl hlt, fun k d e hd x hxm => ?_⟩, M9.wa.put (by omega) hlt, M9.be.trans bp⟩, be7.trans bp, fun x hxm => ?_⟩
            · have e' : look ds3 k = some d := (bp.lo k d (by omega)).mpr e
              exact relaxed_better bp (M9.co.relax k d e' hd x hxm)
            · rw [List.take_add_one, hpc] at hxm
              rcases List.mem_append.mp hxm with h | h
              · exact relaxed_better bp (hx x h)
              · have : x = pc := by simpa using h
                subst this
                exact ⟨_, by rw [look_put, if_pos rfl], Int.le_refl _⟩
          · have M10 := M9.grow g10
            refine ⟨F10, g8.fr.trans (g9.fr.trans g10.fr), g10.sub, ds3, wt3, _, _, _, _, rfl, s49.trans g10.fr, M10, be7, fun x hxm => ?_⟩
            rw [List.take_add_one, hpc] at hxm
            rcases List.mem_append.mp hxm with h | h
            · exact hx x h
            · have : x = pc := by simpa using h
              subst this
              rw [Bool.and_eq_false_iff] at hb3
              rcases hb3 with hb3 | hb3
              · have e : Builtin.bitOr lot x.2 = lot := by simpa using hb3
                exact ⟨dl, by rw [e]; exact el3, by omega⟩
              · have hb3 := of_decide_eq_false hb3
                cases z : look ds3 (Builtin.bitOr lot x.2) with
                | none =>
                  rw [z] at hb3
                  exact absurd (show dl + psz x < dl + psz x + 1 by omega) hb3
                | some d =>
                  rw [z] at hb3
                  have hb3 : ¬ dl + psz x < d := hb3
                  exact ⟨d, z, by omega⟩
        · subst eσ
          rw [List.take_length] at hx
          refine ⟨F7, s47, s7, ds3, wt3, _, _, _, _, _, rfl, M7, fun lt hlt e x hxm => ?_⟩
          rw [List.take_add_one, hlot] at hlt
          rcases List.mem_append.mp hlt with h | h
          · exact relaxed_better be7 (hdone lt h e x hxm)
          · have : lt = lot := by simpa using h
            subst this
            exact hx x hxm
      · have hb2 := of_decide_eq_false hb2
        refine ⟨F6, g5.fr.trans g6.fr, g6.sub, ds2, wt2, _, _, _, _, _, rfl, M5.grow g6, fun lt hlt e x hxm => ?_⟩
        rw [List.take_add_one, hlot] at hlt
        rcases List.mem_append.mp hlt with h | h
        · exact hdone lt h e x hxm
        · have : lt = lot := by simpa using h
          subst this
          rw [e] at el
          cases el
          exact absurd rfl hb2
    · subst eσ
      rw [List.take_length] at hdone
      refine st_asg s4 (ev_add (ev_var (a := c) rfl rfl) ev_i) fun vn F5 H5 g5 rn => ?_
      have rn : vn = V.int (c + 1) := rn
      subst rn
      refine ⟨(B - (c + 1)).toNat, F5, by omega, g5.sub, c + 1, ds2, wt2, _, _, _, _, _, rfl, rfl, by omega, M.ls.grow g5, ⟨M.co.toSound, fun k d e hd x hxm => ?_⟩, M.wa.up⟩
      by_cases z : d < c
      · exact M.co.relax k d e z x hxm
      · have z : d = c := by omega
        subst z
        have e1 : look ds k = some d := (M.be.lo k d (Int.le_refl _)).mpr e
        exact hdone k (lall k e1) e1 x hxm
  · rename_i hb
    have hb : (!(look ds whole).isSome || decide (c < (look ds whole).getD 0)) = false := Bool.eq_false_iff.mpr hb
    rw [Bool.or_eq_false_iff] at hb
    cases z : look ds whole with
    | none => rw [z] at hb; cases hb.1
    | some best =>
      rw [z] at hb
      have hle : best ≤ c := by
        have := of_decide_eq_false hb.2
        have this : ¬ c < best := this
        omega
      refine ⟨_, rfl, q p ds best F2 H2 L2.gr L2.np L2.fp L2.hp ⟨z, ?_, C.toSound, fun k d e hd => C.relax k d e (by omega)⟩⟩
      rcases C.reach ws0 of0 with ⟨d, e, hd⟩ | h
      · rw [un0, z] at e
        cases e
        omega
      · omega
end
end K90
set_option maxHeartbeats 4000000
namespace K90
open PySem PySem.Spec PyProof.Rows L2 SX Ly
abbrev Rs := List (Int × List Str)
def Le (rs : Rs) (k : Int) (t : List Nat) : Prop := ∃ s : Str, look rs k = some [s] ∧ s.cps.toList ≤ t
structure Rows (pcs : List Pc) (ds : List (Int × Int)) (rs : Rs) : Prop where
  nd : (rs.map (·.1)).Nodup
  zero : Le rs 0 []
  snd : ∀ k l, look rs k = some l → ∃ s ws, l = [s] ∧ Of pcs ws ∧ un ws = k ∧ tx ws = s.cps.toList ∧ look ds k = some (sz ws)
def Full (pcs : List Pc) (ds : List (Int × Int)) (c : Int) (rs : Rs) : Prop := ∀ ws p, Of pcs (ws ++ [p]) → look ds (un (ws ++ [p])) = some (sz (ws ++ [p])) → sz ws < c → Le rs (un (ws ++ [p])) (tx (ws ++ [p]))
/-- rs2 goes on from rs at cost c -/
structure On (ds : List (Int × Int)) (c : Int) (rs rs2 : Rs) : Prop where
  le : ∀ k t, Le rs k t → Le rs2 k t
  lo : ∀ k d, look ds k = some d → d ≤ c → look rs2 k = look rs k
theorem On.refl (ds : List (Int × Int)) (c : Int) (rs : Rs) : On ds c rs rs := ⟨fun _ _ h => h, fun _ _ _ _ => rfl⟩
theorem On.trans {ds : List (Int × Int)} {c : Int} {a b d : Rs} (h : On ds c a b) (h2 : On ds c b d) : On ds c a d := ⟨fun k t x => h2.le k t (h.le k t x), fun k x e l => (h2.lo k x e l).trans (h.lo k x e l)⟩
/-- the text behind a step -/
def addW (s : Str) (p : Pc) : Str := S (s.cps.toList ++ (p.1.cps.toList ++ [32]))
def newRow (rs : Rs) (late : Int) (cand : Str) : List Str := (sortW ((look rs late).getD [] ++ [cand])).take 1
theorem newRow_is {pcs : List Pc} {ds : List (Int × Int)} {rs : Rs} (R : Rows pcs ds rs) (late : Int) (cand : Str) : ∃ m, newRow rs late cand = [m] ∧ (m = cand ∨ look rs late = some [m]) ∧ m.cps.toList ≤ cand.cps.toList ∧ ∀ s, look rs late = some [s] → m.cps.toList ≤ s.cps.toList := by
  obtain ⟨m, e, hm, hl⟩ := sortW_first (xs := (look rs late).getD [] ++ [cand]) (by simp)
  refine ⟨m, e, ?_, hl cand (List.mem_append_right _ (by simp)), fun s hs => hl s (by rw [hs]; simp)⟩
  rcases List.mem_append.mp hm with z | z
  · cases el : look rs late with
    | none => rw [el] at z; exact absurd z (by simp)
    | some l =>
      obtain ⟨s, _, e1, _⟩ := R.snd late l el
      subst e1
      rw [el] at z
      have z : m = s := by simpa using z
      exact .inr (by rw [z])
  · exact .inl (by simpa using z)
theorem Rows.put {pcs : List Pc} {ds : List (Int × Int)} {rs : Rs} (R : Rows pcs ds rs) {lot c : Int} {s : Str} {p : Pc} (hs : look rs lot = some [s]) (hc : look ds lot = some c) (hp : p ∈ pcs) (hd : look ds (Builtin.bitOr lot p.2) = some (c + psz p)) :
    Rows pcs ds (putD rs (Builtin.bitOr lot p.2) (newRow rs (Builtin.bitOr lot p.2) (addW s p))) ∧ On ds c rs (putD rs (Builtin.bitOr lot p.2) (newRow rs (Builtin.bitOr lot p.2) (addW s p))) ∧
      Le (putD rs (Builtin.bitOr lot p.2) (newRow rs (Builtin.bitOr lot p.2) (addW s p))) (Builtin.bitOr lot p.2) (addW s p).cps.toList := by
  have pp := psz_pos p
  obtain ⟨m, em, hm, h1, h2⟩ := newRow_is R (Builtin.bitOr lot p.2) (addW s p)
  rw [em]
  have le : ∀ k t, Le rs k t → Le (putD rs (Builtin.bitOr lot p.2) [m]) k t := fun k t ⟨s', e', l'⟩ => by
    by_cases z : Builtin.bitOr lot p.2 = k
    · refine ⟨m, by rw [look_put, if_pos z], ?_⟩
      exact List.le_trans (h2 s' (by rw [z]; exact e')) l'
    · exact ⟨s', by rw [look_put, if_neg z]; exact e', l'⟩
  refine ⟨⟨put_keys _ _ _ R.nd, le _ _ R.zero, fun k l e => ?_⟩, ⟨le, fun k d e hdc => ?_⟩, ⟨m, by rw [look_put, if_pos rfl], h1⟩⟩
  · rw [look_put] at e
    by_cases z : Builtin.bitOr lot p.2 = k
    · rw [if_pos z] at e
      cases e
      rcases hm with hm | hm
      · obtain ⟨s1, ws, e1, o1, u1, t1, d1⟩ := R.snd lot [s] hs
        cases e1
        refine ⟨m, ws ++ [p], rfl, o1.snoc hp, by rw [un_snoc, u1, z], ?_, ?_⟩
        · rw [tx_snoc, t1, hm]
          rfl
        · rw [hc] at d1
          cases d1
          rw [sz_snoc, ← z]
          exact hd
      · rw [z] at hm
        exact R.snd k [m] hm
    · rw [if_neg z] at e
      exact R.snd k l e
  · rw [look_put, if_neg]
    intro z
    rw [z, e] at hd
    cases hd
    omega
def IsBest (pcs : List Pc) (whole : Int) (t : List Nat) : Prop := ∃ ws, Of pcs ws ∧ un ws = whole ∧ tx ws = t ∧ ∀ ws', Of pcs ws' → un ws' = whole → t.length < (tx ws').length ∨ (t.length = (tx ws').length ∧ t ≤ tx ws')
theorem IsBest.one {pcs : List Pc} {whole : Int} {t u : List Nat} (h : IsBest pcs whole t) (h2 : IsBest pcs whole u) : t = u := by
  obtain ⟨ws, a1, a2, rfl, a4⟩ := h
  obtain ⟨vs, b1, b2, rfl, b4⟩ := h2
  rcases a4 vs b1 b2 with x | ⟨x1, x2⟩
  · rcases b4 ws a1 a2 with y | ⟨y1, y2⟩ <;> omega
  · rcases b4 ws a1 a2 with y | ⟨y1, y2⟩
    · omega
    · exact List.le_antisymm x2 y2
open Classical in
noncomputable def bestOf (pcs : List Pc) (whole : Int) : Str := if h : ∃ t, IsBest pcs whole t then S (Classical.choose h).dropLast else S []
theorem bestOf_is {pcs : List Pc} {whole : Int} {t : List Nat} (h : IsBest pcs whole t) : bestOf pcs whole = S t.dropLast := by
  unfold bestOf
  rw [dif_pos ⟨t, h⟩, (Classical.choose_spec (⟨t, h⟩ : ∃ t, IsBest pcs whole t)).one h]
theorem full_step {pcs : List Pc} {ds : List (Int × Int)} {best c : Int} {rs rs2 : Rs} (C : Cost pcs best ds) (hc : c ≤ best) (R : Rows pcs ds rs) (Fu : Full pcs ds c rs) (O : On ds c rs rs2)
    (done : ∀ lot, look ds lot = some c → (look rs lot).isSome = true → ∀ p ∈ pcs, look ds (Builtin.bitOr lot p.2) = some (c + psz p) → ∀ s, look rs lot = some [s] → Le rs2 (Builtin.bitOr lot p.2) (addW s p).cps.toList) : Full pcs ds (c + 1) rs2 := by
  intro ws p ho hd hz
  by_cases z : sz ws < c
  · exact O.le _ _ (Fu ws p ho hd z)
  have z : sz ws = c := by omega
  have hw : Of pcs ws := fun q hq => ho q (List.mem_append_left _ hq)
  have hp : p ∈ pcs := ho p (List.mem_append_right _ (by simp))
  rw [un_snoc, sz_snoc, z] at hd
  have e1 : look ds (un ws) = some c := by
    rcases C.reach ws hw with ⟨d, e, l⟩ | h
    · by_cases z2 : d < c
      · obtain ⟨d', e', l'⟩ := C.relax _ d e (by omega) p hp
        rw [hd] at e'
        cases e'
        omega
      · have : d = c := by omega
        rw [← this]
        exact e
    · omega
  have hle : Le rs (un ws) (tx ws) := by
    rcases List.eq_nil_or_concat ws with e | ⟨ws0, p0, e⟩
    · subst e
      exact R.zero
    · rw [List.concat_eq_append] at e
      subst e
      refine Fu ws0 p0 hw (by rw [e1, z]) ?_
      rw [sz_snoc] at z
      have := psz_pos p0
      omega
  obtain ⟨s, e2, l2⟩ := hle
  obtain ⟨s3, e3, l3⟩ := done (un ws) e1 (by rw [e2]; rfl) p hp hd s e2
  rw [un_snoc, tx_snoc]
  refine ⟨s3, e3, List.le_trans l3 ?_⟩
  show s.cps.toList ++ (p.1.cps.toList ++ [32]) ≤ _
  refine app_le _ ?_ l2
  obtain ⟨s1, ws1, x1, x2, x3, x4, x5⟩ := R.snd _ _ e2
  cases x1
  rw [e1] at x5
  cases x5
  rw [← x4]
  unfold sz at z
  omega
theorem best_row {pcs : List Pc} {whole B best : Int} {ds : List (Int × Int)} {rs : Rs} (Rc : CcRes pcs whole B best ds) (R : Rows pcs ds rs) (Fu : Full pcs ds (best + 1) rs) : ∃ s, look rs whole = some [s] ∧ IsBest pcs whole s.cps.toList := by
  have C := Rc.co
  have any : ∀ ws, Of pcs ws → un ws = whole → sz ws = best → Le rs whole (tx ws) := fun ws ho hu hz => by
    rcases List.eq_nil_or_concat ws with e | ⟨ws0, p0, e⟩
    · subst e
      have : whole = 0 := hu.symm
      rw [this]
      exact R.zero
    · rw [List.concat_eq_append] at e
      subst e
      have := Fu ws0 p0 ho (by rw [hu, hz]; exact Rc.at_) (by
        rw [sz_snoc] at hz
        have := psz_pos p0
        omega)
      rwa [hu] at this
  obtain ⟨ws, ho, hu, hz⟩ := C.snd whole best Rc.at_
  obtain ⟨s, es, _⟩ := any ws ho hu hz
  obtain ⟨s1, ws1, x1, x2, x3, x4, x5⟩ := R.snd _ _ es
  cases x1
  rw [Rc.at_] at x5
  have sz1 : sz ws1 = best := (Option.some.inj x5).symm
  refine ⟨s, es, ws1, x2, x3, x4, fun ws' ho' hu' => ?_⟩
  rw [← x4]
  have sl : ((tx ws1).length : Int) = best := sz1
  rcases C.reach ws' ho' with ⟨d, e, l⟩ | h
  · rw [hu', Rc.at_] at e
    cases e
    by_cases z : sz ws' = best
    · obtain ⟨s2, e2, l2⟩ := any ws' ho' hu' z
      rw [es] at e2
      cases e2
      refine .inr ⟨?_, ?_⟩
      · unfold sz at z
        omega
      · rw [x4]
        exact l2
    · left
      unfold sz at z l
      omega
  · left
    unfold sz at h
    omega
end K90
set_option maxHeartbeats 4000000
namespace Ly
open PySem PySem.Spec PyProof.Rows L2 SX
open Rep
theorem ev_eqO {σ : L2.St} {F H : Hp} {ta tb : TE} {o : Option Int} {j : Int} (ha : Ev ta σ F H o) (hb : Ev tb σ F H j) : Ev (tOp rEq ta tb) σ F H (decide (o = some j)) := ev_op (fun F H v u Q s rx ry q => by
  have ry : u = V.int j := ry
  subst ry
  cases o with
  | none =>
    have rx : v = V.non := rx
    subst rx
    exact ⟨rfl, q _ F H (Grow.refl s) (by show V.bl _ = V.bl _; congr 1)⟩
  | some i =>
    have rx : v = V.int i := rx
    subst rx
    exact ⟨rfl, q _ F H (Grow.refl s) (by show V.bl _ = V.bl _; congr 1; simp)⟩) ha hb
theorem ev_neg {σ : L2.St} {F H : Hp} {ta : TE} {i : Int} (ha : Ev ta σ F H i) : Ev (tUn (rU fun i => .int (-i)) ta) σ F H (-i) := ev_un (fun F H x Q s rx q => ⟨i, rx, q _ F H (Grow.refl s) rfl⟩) ha
/-- {k: a} -/
theorem en_disp1 {κ α : Type} [KeyT κ] [Rep κ] [KeyRep κ] [Rep α] {σ : L2.St} {F H : Hp} {tk tv : TE} {k : κ} {a : α} (hk : Ev tk σ F H k) (hv : Ev tv σ F H a) : EvN (tDisp [(tk, tv)]) σ F H (IsD [(k, a)]) := fun F1 H1 g Q q p n => by
  have f : F1 p = none := by
    cases e : F1 p with
    | none => rfl
    | some o => rw [g.sub _ _ e] at n; cases n
  have g1 := Grow.lay (M := fun _ => False) (o := .dK []) g.sub n
  refine hk _ _ (g.trans g1) _ fun x F2 H2 g2 rx => hv _ _ ((g.trans g1).trans g2) _ fun y F3 H3 g3 ry => ?_
  have e3 : H3 p = some (.dK []) := (g2.trans g3).at upd_same
  refine ⟨e3, [(KeyT.key k, y)], by rw [KeyRep.kv rx]; rfl, (by show 1 ≤ 15; decide), ?_⟩
  have f3 : F3 p = none := (g2.trans g3).live upd_same f
  exact q p _ F3 _ ((g1.trans (g2.trans g3)).put (.inl n) f3) n f3 upd_same ⟨_, rfl, .cons ⟨rfl, ry⟩ .nil⟩
end Ly
namespace K90
open PySem PySem.Spec PyProof.Rows L2 SX Ly
open Rep
structure FS (F0 H0 : Hp) (p q : Addr) (ds : List (Int × Int)) (rs : Rs) (F H : Hp) : Prop where
  gr : Gr F0 H0 F H
  ne : p ≠ q
  np : H0 p = none
  nq : H0 q = none
  fp : F p = none
  fq : F q = none
  hp : H p = some (.dK (dsK ds))
  ex : ∃ kr, H q = some (.dK kr) ∧ Paired (DRel F) kr rs
theorem FS.grow {F0 H0 F H F1 H1 : Hp} {p q : Addr} {ds : List (Int × Int)} {rs : Rs} (L : FS F0 H0 p q ds rs F H) (g : Gr F H F1 H1) : FS F0 H0 p q ds rs F1 H1 := by
  obtain ⟨kr, h1, h2⟩ := L.ex
  exact ⟨L.gr.trans g, L.ne, L.np, L.nq, g.live L.hp L.fp, g.live h1 L.fq, g.at L.hp, kr, g.at h1, drel_mono g.fr h2⟩
theorem FS.put {F0 H0 F H : Hp} {p q : Addr} {ds : List (Int × Int)} {rs rs' : Rs} {kvs : List (Key × V)} (L : FS F0 H0 p q ds rs F H) (h : Paired (DRel F) kvs rs') : FS F0 H0 p q ds rs' F (upd H q (.dK kvs)) :=
  ⟨L.gr.put (.inl L.nq) L.fq, L.ne, L.np, L.nq, L.fp, L.fq, by rw [upd_ne L.ne]; exact L.hp, kvs, upd_same, h⟩
theorem Rows.len {pcs : List Pc} {ds : List (Int × Int)} {rs : Rs} (R : Rows pcs ds rs) : rs.length ≤ ds.length := by
  have := nd_len (l := ds.map (·.1)) R.nd fun k hk => by
    have h := look_some_mem.mpr hk
    cases e : look rs k with
    | none => rw [e] at h; cases h
    | some l =>
      obtain ⟨s, ws, _, _, _, _, h5⟩ := R.snd k l e
      exact look_some_mem.mp (by rw [h5]; rfl)
  simpa using this
section
variable {P : Program} {w : World} {K : PySem.W.Frag} {mg : Str → Option Value} {base : Heap}
theorem ok_first_cover (T : Tx K mg) : Cal P w K mg base 2 "first_cover" (Sp2 (fun (pcs : List Pc) (whole : Int) => ∃ B, CcPre pcs whole B) bestOf) [] := by
  have c_cheapest_covers := ok_cheapest_covers (P := P) (w := w) (base := base) T
  refine cal_of T.t_first_cover sc_first_cover (fun _ _ _ _ _ _ us hl => match us, hl with | [_, _], _ => rfl) Sp2.len (fun cdv A outer s H vs Q E hr h => ?_)
  have nd := sc_first_cover.nd
  have hu := hu_of hr
  refine ⟨_, PSs.nox (pss_cons (ps_set (i := 2) nd rfl (by first | exact Or.inl rfl | exact Or.inr rfl) (pe_c c_cheapest_covers hr (by decide) (by rfl) (pa_cons (pv 0) (pa_cons (pv 1) pa_nil))))
    (pss_cons (ps_asg (pe_tup (pa_cons (pe_dget hu (pv 2) (pv 1) (fun _ _ => rfl)) (pa_cons (pe_disp (pps_cons pe_int (pe_lst (pa_cons pe_str pa_nil)) pps_nil) (by rfl) (by rfl) (fun z => by cases z) (by decide)) pa_nil))) (show PG _ _ (gTup K 2 _) from (pg_tup (by rfl) (pgs_cons (pg_name (i := 3) nd rfl (by first | exact Or.inl rfl | exact Or.inr rfl)) (pgs_cons (pg_name (i := 4) nd rfl (by first | exact Or.inl rfl | exact Or.inr rfl)) pgs_nil)))))
    (pss_cons (ps_for PassesOwn.never rfl (pi_range1 (by rfl) (T.m_range) (pa_cons (pe_op o_add (pv 3) pe_int) pa_nil)) (pg_name (i := 5) nd rfl (by first | exact Or.inl rfl | exact Or.inr rfl))
    (pss_one (ps_for PassesOwn.never rfl (show PI _ _ _ (iList K _) from (pi_list (pe_lock (pe_lc (own := [("late", 6)]) rfl nd (pi_keys (pv 2)) (blkOk_by (N := N_first_cover) (sc := (defScope s_first_cover)) (by decide +kernel)) (fun _ _ _ _ _ => (pg_name (i := 6) nd rfl (by first | exact Or.inl rfl | exact Or.inr rfl))) (fun _ _ _ _ _ => pts_one (PW.pt (pw_and (pt_cmpR (op_eq) (pe_dget hu (pv 2) (pv 6) (fun _ _ => rfl)) (pv 5) (nomark _)) (pw_and1 (pt_cmp (pc_din hu (pv 6) (pv 4)) rfl))))) (fun _ _ _ _ _ => (pv 6)))))) (pg_name (i := 7) nd rfl (by first | exact Or.inl rfl | exact Or.inr rfl))
    (pss_one (ps_for PassesOwn.never rfl (show PI _ _ _ (iList K _) from (pi_list (pv 0))) (show PG _ _ (gTup K 2 _) from (pg_tup (by rfl) (pgs_cons (pg_name (i := 8) nd rfl (by first | exact Or.inl rfl | exact Or.inr rfl)) (pgs_cons (pg_name (i := 9) nd rfl (by first | exact Or.inl rfl | exact Or.inr rfl)) pgs_nil))))
    (pss_cons (ps_set (i := 6) nd rfl (by first | exact Or.inl rfl | exact Or.inr rfl) (pe_op o_or (pv 7) (pv 9)))
    (pss_one (ps_if (pt_cmpR (op_eq) (pe_dget1 hu (pv 2) (pv 6) ⟨rfl, rfl, rfl, rfl⟩) (pe_op o_add (pe_op o_add (pv 5) (pe_callB (o_lens) (by rfl) (T.m_len) (by decide +kernel) (pa_cons (pv 8) pa_nil))) pe_int) (nomark _))
    (pss_one (ps_dput hu (pv 4) (pv 6) (pe_slice (show SlR _ (rSlL K) from sl_list) (pe_callB (o_sortedS) (by rfl) (T.m_sorted) (by decide +kernel) (pa_cons (pe_op op_cat (pe_dget2 hu (pv 4) (pv 6) (pe_lst pa_nil) ⟨rfl, rfl, rfl, rfl⟩) (pe_lc (own := [("text", 10)]) rfl nd (show PI _ _ _ (iList K _) from (pi_list (pe_dget hu (pv 4) (pv 7) (fun _ _ => rfl)))) (blkOk_by (N := N_first_cover) (sc := (defScope s_first_cover)) (by decide +kernel)) (fun _ _ _ _ _ => (pg_name (i := 10) nd rfl (by first | exact Or.inl rfl | exact Or.inr rfl))) (fun _ _ _ _ _ => pts_nil) (fun _ _ _ _ _ => (pe_op o_adds (pe_op o_adds (pv 10) (pv 8)) pe_str)))) pa_nil)) po_none (po_some pe_int)) rfl))
    pss_nil))))))))
    (pss_one (ps_ret (pe_slice sl_str (pe_ix (show IxR _ (rIxL K) from ix_list) (pe_dget hu (pv 4) (pv 1) (fun _ _ => rfl)) pe_int (fun _ _ => rfl)) po_none (po_some (pe_un un_neg pe_int)))))))), ?_⟩
  obtain ⟨F, v, w, pcs, whole, rfl, s, r, r2, ⟨B, pre⟩, q⟩ := h
  have r2 : w = V.int whole := r2
  subst r2
  obtain ⟨all, A⟩ := pre.al
  have b0 := pre.b
  have pl := pre.len
  have aln := A.len
  refine ⟨_, rfl, _, rfl, F, v, pcs, whole, B, rfl, s, r, pre, fun p ds best F1 H1 g1 np fp hp Rc => ?_⟩
  have C := Rc.co
  have bl := Rc.le
  have bn := C.toSound.nn Rc.at_
  have hdl := C.toSound.keys A
  refine (ev_dget (σ := [some v, some (.int whole), some (.ref p), none, none, none, none, none, none, none, none]) (td := tVar 2) (ty := tVar 1) (F := F1) (H := H1) (ds := ds) (k := whole) (evv rfl) (.inl hp) (dsK_rel _ _) Rc.at_ (ev_var rfl rfl)).go g1.sub fun vb F2 H2 g2 rb => ?_
  have rb : vb = V.int best := rb
  subst rb
  refine (en_disp1 (κ := Int) (α := List Str) (σ := [some v, some (.int whole), some (.ref p), none, none, none, none, none, none, none, none]) (k := 0) (a := [Str.ofString ""]) ev_i (ev_lst1 ev_s)).go g2.sub fun qd o F3 H3 g3 nq fq eq hd => ?_
  obtain ⟨kr, eo, hkr⟩ := hd
  subst eo
  refine ⟨(by show 2 ≤ sizeLine; rw [sizeLine_eq]; decide), fun tp nt => ?_⟩
  refine ⟨tp, [.int best, .ref qd], rfl, .inl (.inl upd_same), rfl, _, _, rfl, _, _, rfl, rfl, ?_⟩
  have g4 := Grow.lay (M := fun _ => False) (o := .tup [.int best, .ref qd]) g3.sub nt
  have hp2 : H2 p = some (.dK (dsK ds)) := g2.at hp
  have L0 : FS F H p qd ds [(0, [Str.ofString ""])] F3 (upd H3 tp (.tup [.int best, .ref qd])) := by
    refine FS.grow (F := F3) (H := H3) ⟨g1.trans (g2.trans g3), fun e => ?_, np, ?_, g3.live hp2 (g2.live hp fp), fq, g3.at hp2, kr, eq, hkr⟩ g4
    · rw [← e, hp2] at nq; cases nq
    · cases e0 : H qd with
      | none => rfl
      | some o => rw [(g1.trans g2).at e0] at nq; cases nq
  generalize upd H3 tp (.tup [.int best, .ref qd]) = H4 at L0
  have R0 : Rows pcs ds [(0, [Str.ofString ""])] := by
    refine ⟨by simp, ⟨Str.ofString "", rfl, by rw [nul_eq]; exact List.le_refl _⟩, fun k l e => ?_⟩
    have h := look_mem e
    have : k = 0 ∧ l = [Str.ofString ""] := by simpa using h
    rw [this.1, this.2]
    exact ⟨_, [], rfl, fun _ h => absurd h (by simp), rfl, by rw [nul_eq]; rfl, C.zero⟩
  dsimp only
  refine st_for (F := F3) (xs := ups 0 (best + 1).toNat) L0.gr.sub (ei_range1 (i := best + 1) (by omega) (ev_add (ev_var (a := best) rfl rfl) ev_i)) (fun i σ' F' H' => ∃ (rs : Rs) (y5 y6 y7 y8 y9 y10 : Option V), σ' = [some v, some (.int whole), some (.ref p), some (.int best), some (.ref qd), y5, y6, y7, y8, y9, y10] ∧ FS F H p qd ds rs F' H' ∧ Rows pcs ds rs ∧ Full pcs ds (i : Int) rs) (fun F5 H5 g5 => ?_) (fun i c hc σ1 F5 H5 s5 ⟨rs, y5, y6, y7, y8, y9, y10, eσ, L, R, Fu⟩ xv F6 H6 g6 rx => ?_) (fun σ1 F5 H5 s5 ⟨rs, y5, y6, y7, y8, y9, y10, eσ, L, R, Fu⟩ => ?_)
  · exact ⟨_, none, none, none, none, none, none, rfl, L0.grow g5, R0, fun ws p _ _ h => by
      have := sz_nn ws
      omega⟩
  · subst eσ
    have rx : xv = V.int c := rx
    subst rx
    obtain ⟨hi, ec⟩ := ups_at hc
    have ec : c = (i : Int) := by omega
    have c0 : 0 ≤ c ∧ c ≤ best := by omega
    rw [← ec] at Fu
    have L6 := L.grow g6
    obtain ⟨kr6, eq6, hkr6⟩ := L6.ex
    have hlots : Ev (tLockE (tLc (iKeys (tVar 2)) (gName 6) (tAnd (tTest (tOp rEq (tDGet (tVar 2) (tVar 6)) (tVar 5))) (tB (tDIn (tVar 6) (tVar 4)))) (tVar 6) [6])) [some v, some (.int whole), some (.ref p), some (.int best), some (.ref qd), some (.int c), y6, y7, y8, y9, y10] F6 H6 (((ds.map (·.1)).filter fun late => decide ((look ds late).getD 0 = c) && (look rs late).isSome).map fun x => x) := by
      refine ev_lockI (p := p) (kvs := dsK ds) g6.sub L6.hp L6.fp fun od => ?_
      have hq : upd H6 p (.frz od (.dK (dsK ds))) qd = some (.dK kr6) := by rw [upd_ne (fun e => L6.ne e.symm)]; exact eq6
      have sF : Same F6 (upd F6 p (.frz od (.dK (dsK ds)))) := fun a x e => by
        rw [upd_ne (fun z => by rw [z, L6.fp] at e; cases e)]
        exact e
      refine ev_filter (ei_keys (evv rfl) upd_same (dsK_rel _ ds)) ?_ (fun _ => rfl) fun j z hz F7 H7 y g7 ry => ⟨et_and (et_test (ev_eqI (ev_dget (ds := ds) (k := z) (a := (look ds z).getD 0) (evv rfl) (.inr ⟨od, g7.at upd_same⟩) (dsK_rel _ _) ?_ (ev_var rfl ry)) (ev_var (a := c) rfl rfl))) fun _ => et_B (ev_din (ds := rs) (k := z) (evv rfl) (.inl (g7.at hq)) (drel_mono g7.fr (drel_mono sF hkr6)) (ev_var rfl ry)), fun _ => ev_var rfl ry⟩
      · rw [List.length_map, sizeLine_eq]
        omega
      · have := look_some_mem.mpr (List.mem_of_getElem? hz)
        cases e : look ds z with
        | none => rw [e] at this; cases this
        | some d => rfl
    rw [List.map_id'] at hlots
    refine st_for (F := F6) g6.sub (ei_list hlots) (fun i σ' F' H' => ∃ (rs2 : Rs) (y6 y7 y8 y9 y10 : Option V), σ' = [some v, some (.int whole), some (.ref p), some (.int best), some (.ref qd), some (.int c), y6, y7, y8, y9, y10] ∧ Same F6 F' ∧ FS F H p qd ds rs2 F' H' ∧ Rows pcs ds rs2 ∧ On ds c rs rs2 ∧
      ∀ lot ∈ ((ds.map (·.1)).filter fun late => decide ((look ds late).getD 0 = c) && (look rs late).isSome).take i, ∀ x ∈ pcs, look ds (Builtin.bitOr lot x.2) = some (c + psz x) → ∀ s, look rs lot = some [s] → Le rs2 (Builtin.bitOr lot x.2) (addW s x).cps.toList) (fun F7 H7 g7 => ?_) (fun i2 lot hlot σ2 F7 H7 s7 ⟨rs2, z6, z7, z8, z9, z10, eσ, s67, L7, R7, O7, D7⟩ xv F8 H8 g8 rx => ?_) (fun σ2 F7 H7 s7 ⟨rs2, z6, z7, z8, z9, z10, eσ, s67, L7, R7, O7, D7⟩ => ?_)
    · exact ⟨rs, _, _, _, _, _, rfl, g7.fr, L6.grow g7, R, On.refl _ _ _, fun lot h => absurd h (by simp)⟩
    · subst eσ
      have rx : xv = V.int lot := rx
      subst rx
      obtain ⟨hk, hpr⟩ := List.mem_filter.mp (List.mem_of_getElem? hlot)
      rw [Bool.and_eq_true] at hpr
      have hlc : look ds lot = some c := by
        have := look_some_mem.mpr hk
        cases e : look ds lot with
        | none => rw [e] at this; cases this
        | some d =>
          have h := of_decide_eq_true hpr.1
          rw [e] at h
          exact congrArg some h
      obtain ⟨st, hst⟩ : ∃ st, look rs lot = some [st] := by
        cases e : look rs lot with
        | none => rw [e] at hpr; exact absurd hpr.2 (by simp)
        | some l =>
          obtain ⟨s1, _, e1, _⟩ := R.snd lot l e
          exact ⟨s1, by rw [e1]⟩
      have L8 := L7.grow g8
      have rp8 : rep F8 v pcs := Rep.mono L8.gr.fr r
      refine st_for (xs := pcs) g8.sub (ei_list (ev_var (a := pcs) rfl rp8)) (fun j σ' F' H' => ∃ (rs3 : Rs) (y6 y8 y9 y10 : Option V), σ' = [some v, some (.int whole), some (.ref p), some (.int best), some (.ref qd), some (.int c), y6, some (.int lot), y8, y9, y10] ∧ Same F7 F' ∧ FS F H p qd ds rs3 F' H' ∧ Rows pcs ds rs3 ∧ On ds c rs2 rs3 ∧
        ∀ x ∈ pcs.take j, look ds (Builtin.bitOr lot x.2) = some (c + psz x) → Le rs3 (Builtin.bitOr lot x.2) (addW st x).cps.toList) (fun F9 H9 g9 => ?_) (fun j pc hpc σ3 F9 H9 s9 ⟨rs3, z6, z8, z9, z10, eσ, s79, L9, R9, O9, D9⟩ xv F10 H10 g10 rx => ?_) (fun σ3 F9 H9 s9 ⟨rs3, z6, z8, z9, z10, eσ, s79, L9, R9, O9, D9⟩ => ?_)
      · exact ⟨rs2, _, _, _, _, rfl, g8.fr.trans g9.fr, L8.grow g9, R7, On.refl _ _ _, fun x h => absurd h (by simp)⟩
      · subst eσ
        have hpm := List.mem_of_getElem? hpc
        have hwl := pre.wl pc hpm
        refine g_pair g10.sub rx fun vw vt rw' rt => ?_
        have rw' : vw = V.str pc.1 := rw'
        have rt : vt = V.int pc.2 := rt
        subst rw' rt
        refine st_asg g10.sub (ev_or (ev_var (a := lot) rfl rfl) (ev_var (a := pc.2) rfl rfl)) fun vl F11 H11 g11 rl => ?_
        have rl : vl = V.int (Builtin.bitOr lot pc.2) := rl
        subst rl
        have L11 := (L9.grow g10).grow g11
        have em : (c : Int) + pc.1.length + 1 = c + psz pc := by unfold psz; omega
        have s711 := s79.trans (g10.fr.trans g11.fr)
        have hst3 : look rs3 lot = some [st] := by rw [O9.lo lot c hlc (Int.le_refl _), O7.lo lot c hlc (Int.le_refl _)]; exact hst
        have stl : st.length ≤ 100000 := by
          obtain ⟨s1, ws, x1, x2, x3, x4, x5⟩ := R.snd lot _ hst
          cases x1
          rw [hlc] at x5
          have : (((tx ws).length : Nat) : Int) = c := (Option.some.inj x5).symm
          rw [x4] at this
          have e : st.cps.toList.length = st.length := Array.length_toList
          omega
        have test : Ev (tOp rEq (tDGet1 (tVar 2) (tVar 6)) (tOp rAddI (tOp rAddI (tVar 5) (tCB rLenS' (tCons (tVar 8) tNil))) (tC (.int 1)))) [some v, some (.int whole), some (.ref p), some (.int best), some (.ref qd), some (.int c), some (.int (Builtin.bitOr lot pc.2)), some (.int lot), some (.str pc.1), some (.int pc.2), z10] F11 H11 (decide (look ds (Builtin.bitOr lot pc.2) = some (c + psz pc))) := by
          rw [← em]
          exact ev_eqO (ev_dget1 (ds := ds) (k := Builtin.bitOr lot pc.2) (evv rfl) (.inl L11.hp) (dsK_rel _ _) (ev_var rfl rfl)) (ev_add (ev_add (ev_var (a := c) rfl rfl) (ev_lenS (x := pc.1) (by rw [sizeLine_eq]; omega) (ev_var rfl rfl))) ev_i)
        refine st_if g11.sub (et_test test) (fun hb F12 H12 g12 => ?_) fun hb F12 H12 g12 => ?_
        · have hd := of_decide_eq_true hb
          have L12 := L11.grow g12
          obtain ⟨kr, eq, hkr⟩ := L12.ex
          have rl := R9.len
          have cand : st ++ pc.1 ++ Str.ofString " " = addW st pc := by
            refine str_S ?_
            have e1 := TL.tl_append (st ++ pc.1) (Str.ofString " ")
            have e2 := TL.tl_append st pc.1
            unfold TL.tl at e1 e2
            rw [e1, e2, sp_eq, List.append_assoc]
          have val : Ev (tSl (rSlL K) (tCB (rSortS K) (tCons (tOp rCat (tDGet2 (tVar 4) (tVar 6) (tLst tNil)) (tLc (iList K (tDGet (tVar 4) (tVar 7))) (gName 10) tYes (tOp rAddS2 (tOp rAddS2 (tVar 10) (tVar 8)) (tC (.str (Str.ofString " ")))) [10])) tNil)) tNoPart (tPart (tC (.int 1))))
              [some v, some (.int whole), some (.ref p), some (.int best), some (.ref qd), some (.int c), some (.int (Builtin.bitOr lot pc.2)), some (.int lot), some (.str pc.1), some (.int pc.2), z10] F12 H12 (newRow rs3 (Builtin.bitOr lot pc.2) (addW st pc)) := by
            have e0 : newRow rs3 (Builtin.bitOr lot pc.2) (addW st pc) = cutL (sortW ((look rs3 (Builtin.bitOr lot pc.2)).getD [] ++ [st].map fun t => t ++ pc.1 ++ Str.ofString " ")) none (some ((1 : Nat) : Int)) := by
              rw [cut_to]
              unfold newRow
              rw [List.map_singleton, cand]
            rw [e0]
            refine ev_slL (ev_sortS (ev_cat ?_ (ev_dget2 (ds := rs3) (k := Builtin.bitOr lot pc.2) (evv rfl) (.inl eq) hkr (ev_var rfl rfl) ev_lst0) (ev_map (ei_list (ev_dget (ds := rs3) (k := lot) (evv rfl) (.inl eq) hkr hst3 (ev_var rfl rfl))) (by rw [sizeLine_eq]; exact (by decide : (1 : Nat) ≤ 16777216)) (fun _ => rfl) fun n z hz F13 H13 y g13 ry => ev_adds ?_ (ev_adds ?_ (ev_var (a := z) rfl ry) (ev_var (a := pc.1) rfl rfl)) ev_s))) eo_none (eo_some ev_i)
            · have : ((look rs3 (Builtin.bitOr lot pc.2)).getD []).length ≤ 1 := by
                cases e : look rs3 (Builtin.bitOr lot pc.2) with
                | none => simp
                | some l =>
                  obtain ⟨s1, _, e1, _⟩ := R9.snd _ l e
                  rw [e1]
                  simp
              rw [List.length_map, sizeLine_eq]
              simp
              omega
            · have : z = st := by
                have := List.mem_of_getElem? hz
                simpa using this
              rw [this, len_app, sizeLine_eq]
              have : (Str.ofString " ").length = 1 := by decide +kernel
              omega
            · have : z = st := by
                have := List.mem_of_getElem? hz
                simpa using this
              rw [this, sizeLine_eq]
              omega
          refine st_dput (ds := rs3) (k := Builtin.bitOr lot pc.2) g12.sub (evv rfl) eq hkr (by rw [sizeLine_eq]; omega) (ev_var rfl rfl) val fun kvs' F13 H13 g13 e13 hp13 => ?_
          obtain ⟨R13, O13, D13⟩ := R9.put hst3 hlc hpm hd
          have L13 := (L12.grow g13).put hp13
          refine ⟨F13, g10.fr.trans (g11.fr.trans (g12.fr.trans g13.fr)), L13.gr.sub, _, _, _, _, _, rfl, s711.trans (g12.fr.trans g13.fr), L13, R13, O9.trans O13, fun x hx hdx => ?_⟩
          rw [List.take_add_one, hpc] at hx
          rcases List.mem_append.mp hx with h | h
          · exact O13.le _ _ (D9 x h hdx)
          · have : x = pc := by simpa using h
            subst this
            exact D13
        · have hb := of_decide_eq_false hb
          refine ⟨F12, g10.fr.trans (g11.fr.trans g12.fr), g12.sub, rs3, _, _, _, _, rfl, s711.trans g12.fr, L11.grow g12, R9, O9, fun x hx hdx => ?_⟩
          rw [List.take_add_one, hpc] at hx
          rcases List.mem_append.mp hx with h | h
          · exact D9 x h hdx
          · have : x = pc := by simpa using h
            subst this
            exact absurd hdx hb
      · subst eσ
        rw [List.take_length] at D9
        refine ⟨F9, s79, s9, rs3, _, _, _, _, _, rfl, s67.trans s79, L9, R9, O7.trans O9, fun lt hlt x hx hdx s1 hs1 => ?_⟩
        rw [List.take_add_one, hlot] at hlt
        rcases List.mem_append.mp hlt with h | h
        · exact O9.le _ _ (D7 lt h x hx hdx s1 hs1)
        · have : lt = lot := by simpa using h
          subst this
          rw [hst] at hs1
          cases hs1
          exact D9 x hx hdx
    · subst eσ
      rw [List.take_length] at D7
      refine ⟨F7, g6.fr.trans s67, s7, rs2, _, _, _, _, _, _, rfl, L7, R7, ?_⟩
      have := full_step C c0.2 R Fu O7 fun lot h1 h2 p hp hd s1 hs1 => D7 lot (List.mem_filter.mpr ⟨look_some_mem.mp (by rw [h1]; rfl), by rw [h1, h2]; simp⟩) p hp hd s1 hs1
      rw [ec] at this
      exact this
  · subst eσ
    have e9 : (((ups 0 (best + 1).toNat).length : Nat) : Int) = best + 1 := by rw [ups_len]; omega
    rw [e9] at Fu
    obtain ⟨st, hst, hbest⟩ := best_row Rc R Fu
    obtain ⟨kr, eq, hkr⟩ := L.ex
    have stl : st.length ≤ 100000 := by
      obtain ⟨s1, ws, x1, x2, x3, x4, x5⟩ := R.snd whole _ hst
      cases x1
      rw [Rc.at_] at x5
      have : (((tx ws).length : Nat) : Int) = best := (Option.some.inj x5).symm
      rw [x4] at this
      have e : st.cps.toList.length = st.length := Array.length_toList
      omega
    refine st_ret (a := bestOf pcs whole) s5 (Ev.is (ev_slS (x := st) (lo := none) (hi := some (-1)) (by rw [sizeLine_eq]; omega) (ev_ixL (n := 0) (ev_dget (ds := rs) (k := whole) (evv rfl) (.inl eq) hkr hst (ev_var rfl rfl)) ev_i rfl) eo_none (eo_some (ev_neg ev_i))) ?_) fun u F6 H6 g6 r6 => q u F6 H6 (L.gr.trans g6) r6
    rw [bestOf_is hbest, cutS_S]
    congr 1
    by_cases z : st.cps.toList = []
    · rw [z]; rfl
    · rw [cut_but z, List.dropLast_eq_take]
end
end K90
set_option maxHeartbeats 4000000
namespace K90
open PySem PySem.Spec PyProof.Rows L2 SX Ly
/-! ### bits -/
def BitsAre (k : Int) (S : Nat → Prop) : Prop := ∃ N : Nat, k = (N : Int) ∧ ∀ i, N.testBit i = true ↔ S i
theorem BitsAre.eq {k l : Int} {S T : Nat → Prop} (h : BitsAre k S) (h2 : BitsAre l T) : k = l ↔ ∀ i, S i ↔ T i := by
  obtain ⟨N, rfl, a⟩ := h
  obtain ⟨M, rfl, b⟩ := h2
  constructor
  · intro e i
    have e : N = M := by omega
    rw [← a, ← b, e]
  · intro e
    have : N = M := Nat.eq_of_testBit_eq fun i => by
      rw [Bool.eq_iff_iff, a, b]
      exact e i
    rw [this]
theorem BitsAre.or {k l : Int} {S T : Nat → Prop} (h : BitsAre k S) (h2 : BitsAre l T) : BitsAre (Builtin.bitOr k l) fun i => S i ∨ T i := by
  obtain ⟨N, rfl, a⟩ := h
  obtain ⟨M, rfl, b⟩ := h2
  refine ⟨N ||| M, ?_, fun i => ?_⟩
  · rw [bitOr_nn (Int.natCast_nonneg _) (Int.natCast_nonneg _), Int.toNat_natCast, Int.toNat_natCast]
  · rw [Nat.testBit_or, Bool.or_eq_true, a, b]
theorem bits_none : BitsAre 0 fun _ => False := ⟨0, rfl, fun i => by simp⟩
theorem bits_pow (m : Nat) : BitsAre ((2 ^ m : Nat) : Int) fun i => i = m := ⟨2 ^ m, rfl, fun i => by
  rw [Nat.testBit_two_pow]
  simp
  exact ⟨Eq.symm, Eq.symm⟩⟩
theorem bits_ones (n : Nat) : BitsAre ((2 ^ n : Nat) - 1 : Int) fun i => i < n := ⟨2 ^ n - 1, by
  have : 0 < 2 ^ n := Nat.pow_pos (by decide)
  omega, fun i => by rw [Nat.testBit_two_pow_sub_one]; simp⟩
theorem and_pow {N m : Nat} (h : N.testBit m = false) : 2 ^ m &&& N = 0 := Nat.eq_of_testBit_eq fun i => by
  rw [Nat.testBit_and, Nat.testBit_two_pow, Nat.zero_testBit]
  by_cases e : m = i
  · subst e
    rw [h, Bool.and_false]
  · rw [decide_eq_false e, Bool.false_and]
theorem bits_sum : ∀ {l : List Int}, l.Nodup → (∀ m ∈ l, 0 ≤ m) → BitsAre (bitsOf l) fun i => (i : Int) ∈ l
  | [], _, _ => ⟨0, rfl, fun i => by simp⟩
  | m :: r, nd, h => by
    rw [List.nodup_cons] at nd
    obtain ⟨N, e, a⟩ := bits_sum nd.2 fun x hx => h x (List.mem_cons_of_mem _ hx)
    have hm := h m (List.mem_cons_self ..)
    have off : N.testBit m.toNat = false := by
      rw [Bool.eq_false_iff]
      intro z
      have this : ((m.toNat : Nat) : Int) ∈ r := (a m.toNat).mp z
      rw [Int.toNat_of_nonneg hm] at this
      exact nd.1 this
    refine ⟨2 ^ m.toNat ||| N, ?_, fun i => ?_⟩
    · have s : bitsOf (m :: r) = 1 * 2 ^ m.toNat + bitsOf r := by unfold bitsOf; rw [List.map_cons, List.sum_cons]
      rw [s, e]
      have := nat_or_add_and (2 ^ m.toNat) N
      rw [and_pow off, Nat.add_zero] at this
      rw [this]
      push_cast
      omega
    · rw [Nat.testBit_or, Nat.testBit_two_pow, Bool.or_eq_true, a, decide_eq_true_eq]
      show m.toNat = i ∨ (i : Int) ∈ r ↔ (i : Int) ∈ m :: r
      rw [List.mem_cons]
      constructor
      · rintro (z | z)
        · left; omega
        · exact .inr z
      · rintro (z | z)
        · left; omega
        · exact .inr z
/-- the lots of a list of minutes -/
def subsB : List Int → List Int
  | [] => [0]
  | m :: r => subsB r ++ (subsB r).map fun k => Builtin.bitOr ((2 ^ m.toNat : Nat) : Int) k
theorem subsB_len : ∀ l : List Int, (subsB l).length = 2 ^ l.length
  | [] => rfl
  | m :: r => by
    show (subsB r ++ (subsB r).map _).length = _
    rw [List.length_append, List.length_map, subsB_len r, List.length_cons, Nat.pow_succ]
    omega
theorem subsB_mem : ∀ {l : List Int}, (∀ m ∈ l, 0 ≤ m) → ∀ N : Nat, (∀ i, N.testBit i = true → (i : Int) ∈ l) → (N : Int) ∈ subsB l
  | [], _, N, h => by
    have : N = 0 := Nat.eq_of_testBit_eq fun i => by
      rw [Nat.zero_testBit, Bool.eq_false_iff]
      intro z
      exact absurd (h i z) (by simp)
    subst this
    simp [subsB]
  | m :: r, hn, N, h => by
    have hm := hn m (List.mem_cons_self ..)
    have hr : ∀ x ∈ r, 0 ≤ x := fun x hx => hn x (List.mem_cons_of_mem _ hx)
    show _ ∈ subsB r ++ (subsB r).map _
    by_cases z : N.testBit m.toNat = true
    · refine List.mem_append_right _ (List.mem_map.mpr ⟨((N ^^^ 2 ^ m.toNat : Nat) : Int), subsB_mem hr _ fun i hi => ?_, ?_⟩)
      · rw [Nat.testBit_xor, Nat.testBit_two_pow] at hi
        by_cases e : m.toNat = i
        · subst e
          rw [z] at hi
          simp at hi
        · rw [decide_eq_false e, Bool.xor_false] at hi
          rcases List.mem_cons.mp (h i hi) with e2 | e2
          · omega
          · exact e2
      · rw [bitOr_nn (Int.natCast_nonneg _) (Int.natCast_nonneg _), Int.toNat_natCast, Int.toNat_natCast]
        congr 1
        refine Nat.eq_of_testBit_eq fun i => ?_
        rw [Nat.testBit_or, Nat.testBit_xor, Nat.testBit_two_pow]
        by_cases e : m.toNat = i
        · subst e
          rw [z, decide_eq_true rfl]
          rfl
        · rw [decide_eq_false e, Bool.false_or, Bool.xor_false]
    · refine List.mem_append_left _ (subsB_mem hr N fun i hi => ?_)
      rcases List.mem_cons.mp (h i hi) with e2 | e2
      · have : m.toNat = i := by omega
        rw [this] at z
        exact absurd hi z
      · exact e2
theorem subsB_of : ∀ {l : List Int}, (∀ m ∈ l, 0 ≤ m) → ∀ k ∈ subsB l, ∃ N : Nat, k = (N : Int) ∧ ∀ i, N.testBit i = true → (i : Int) ∈ l
  | [], _, k, h => by
    have : k = 0 := by simpa [subsB] using h
    exact ⟨0, this, fun i z => by simp at z⟩
  | m :: r, hn, k, h => by
    have hm := hn m (List.mem_cons_self ..)
    have hr : ∀ x ∈ r, 0 ≤ x := fun x hx => hn x (List.mem_cons_of_mem _ hx)
    have h : k ∈ subsB r ++ (subsB r).map _ := h
    rcases List.mem_append.mp h with h | h
    · obtain ⟨N, e, a⟩ := subsB_of hr k h
      exact ⟨N, e, fun i z => List.mem_cons_of_mem _ (a i z)⟩
    · obtain ⟨k', hk, rfl⟩ := List.mem_map.mp h
      obtain ⟨N, rfl, a⟩ := subsB_of hr k' hk
      refine ⟨2 ^ m.toNat ||| N, by rw [bitOr_nn (Int.natCast_nonneg _) (Int.natCast_nonneg _), Int.toNat_natCast, Int.toNat_natCast], fun i z => ?_⟩
      rw [Nat.testBit_or, Nat.testBit_two_pow, Bool.or_eq_true, decide_eq_true_eq] at z
      rcases z with z | z
      · rw [show (i : Int) = m by omega]
        exact List.mem_cons_self ..
      · exact List.mem_cons_of_mem _ (a i z)
/-! ### covers of minutes -/
abbrev Pm := Str × List Int
def txM (ws : List Pm) : List Nat := ws.flatMap fun q => q.1.cps.toList ++ [32]
def CovM (qs : List Pm) (ms : List Int) (ws : List Pm) : Prop := (∀ q ∈ ws, q ∈ qs) ∧ ∀ m ∈ ms, ∃ q ∈ ws, m ∈ q.2
def IsBestM (qs : List Pm) (ms : List Int) (t : List Nat) : Prop := ∃ ws, CovM qs ms ws ∧ txM ws = t ∧ ∀ ws', CovM qs ms ws' → t.length < (txM ws').length ∨ (t.length = (txM ws').length ∧ t ≤ txM ws')
theorem IsBestM.one {qs : List Pm} {ms : List Int} {t u : List Nat} (h : IsBestM qs ms t) (h2 : IsBestM qs ms u) : t = u := by
  obtain ⟨ws, a1, rfl, a4⟩ := h
  obtain ⟨vs, b1, rfl, b4⟩ := h2
  rcases a4 vs b1 with x | ⟨x1, x2⟩
  · rcases b4 ws a1 with y | ⟨y1, y2⟩ <;> omega
  · rcases b4 ws a1 with y | ⟨y1, y2⟩
    · omega
    · exact List.le_antisymm x2 y2
def encP (f : List Int → List Int) (q : Pm) : Pc := (q.1, bitsOf (f q.2))
theorem tx_enc (f : List Int → List Int) (ws : List Pm) : tx (ws.map (encP f)) = txM ws := by
  unfold tx txM
  rw [List.flatMap_map]
  rfl
theorem of_enc {f : List Int → List Int} {qs : List Pm} : ∀ {ws : List Pc}, Of (qs.map (encP f)) ws → ∃ vs : List Pm, (∀ q ∈ vs, q ∈ qs) ∧ ws = vs.map (encP f)
  | [], _ => ⟨[], fun _ h => absurd h (by simp), rfl⟩
  | p :: r, h => by
    obtain ⟨vs, h1, h2⟩ := of_enc (ws := r) fun q hq => h q (List.mem_cons_of_mem _ hq)
    obtain ⟨q, hq, e⟩ := List.mem_map.mp (h p (List.mem_cons_self ..))
    exact ⟨q :: vs, fun x hx => by
      rcases List.mem_cons.mp hx with z | z
      · exact z ▸ hq
      · exact h1 x z, by rw [List.map_cons, e, h2]⟩
theorem un_bits {f : List Int → List Int} (ws : List Pm) : (∀ q ∈ ws, (f q.2).Nodup ∧ ∀ m ∈ f q.2, 0 ≤ m) → BitsAre (un (ws.map (encP f))) fun i => ∃ q ∈ ws, (i : Int) ∈ f q.2 := by
  induction ws using snoc_ind with
  | h0 => exact fun _ => ⟨0, rfl, fun i => by simp⟩
  | h1 l a ih =>
    intro h
    have i1 := ih fun q hq => h q (List.mem_append_left _ hq)
    have ha := h a (List.mem_append_right _ (by simp))
    rw [List.map_append, List.map_singleton, un_snoc]
    obtain ⟨N, e, b⟩ := i1.or (bits_sum ha.1 ha.2)
    refine ⟨N, e, fun i => (b i).trans ?_⟩
    constructor
    · rintro (⟨q, hq, z⟩ | z)
      · exact ⟨q, List.mem_append_left _ hq, z⟩
      · exact ⟨a, List.mem_append_right _ (by simp), z⟩
    · rintro ⟨q, hq, z⟩
      rcases List.mem_append.mp hq with y | y
      · exact .inl ⟨q, y, z⟩
      · have : q = a := by simpa using y
        exact .inr (this ▸ z)
/-- best in bits, best in minutes -/
theorem best_enc {f : List Int → List Int} {qs : List Pm} {ms : List Int} {whole : Int} (hc : ∀ ws : List Pm, (∀ q ∈ ws, q ∈ qs) → (un (ws.map (encP f)) = whole ↔ ∀ m ∈ ms, ∃ q ∈ ws, m ∈ q.2)) {t : List Nat} : IsBest (qs.map (encP f)) whole t ↔ IsBestM qs ms t := by
  constructor
  · rintro ⟨ws, h1, h2, h3, h4⟩
    obtain ⟨vs, a1, rfl⟩ := of_enc h1
    refine ⟨vs, ⟨a1, (hc vs a1).mp h2⟩, by rw [← tx_enc f]; exact h3, fun ws' ⟨b1, b2⟩ => ?_⟩
    rw [← tx_enc f]
    exact h4 _ (fun p hp => by
      obtain ⟨q, hq, rfl⟩ := List.mem_map.mp hp
      exact List.mem_map.mpr ⟨q, b1 q hq, rfl⟩) ((hc ws' b1).mpr b2)
  · rintro ⟨vs, ⟨a1, a2⟩, h3, h4⟩
    refine ⟨vs.map (encP f), fun p hp => by
      obtain ⟨q, hq, rfl⟩ := List.mem_map.mp hp
      exact List.mem_map.mpr ⟨q, a1 q hq, rfl⟩, (hc vs a1).mpr a2, by rw [tx_enc]; exact h3, fun ws' h1 h2 => ?_⟩
    obtain ⟨vs', b1, rfl⟩ := of_enc h1
    rw [tx_enc]
    exact h4 vs' ⟨b1, (hc vs' b1).mp h2⟩
open Classical in
noncomputable def bestM (qs : List Pm) (ms : List Int) : Str := if h : ∃ t, IsBestM qs ms t then S (Classical.choose h).dropLast else S []
theorem bestM_is {qs : List Pm} {ms : List Int} {t : List Nat} (h : IsBestM qs ms t) : bestM qs ms = S t.dropLast := by
  unfold bestM
  rw [dif_pos ⟨t, h⟩, (Classical.choose_spec (⟨t, h⟩ : ∃ t, IsBestM qs ms t)).one h]
end K90
set_option maxHeartbeats 4000000
namespace K90
open PySem PySem.Spec PyProof.Rows L2 SX Ly
open Rep
def idL (l : List Int) : List Int := l
noncomputable def shortM (hour : Int) (ms : List Int) : Str := if ms = [] then S [] else bestM (useful hour ms) ms
def OkShort (hour : Int) (ms : List Int) : Prop := OkMins hour ms ∧ ms.length ≤ 16
theorem useful_nn {hour : Int} {ms : List Int} {q : Pm} (h : q ∈ useful hour ms) : q.2.Nodup ∧ (∀ m ∈ q.2, 0 ≤ m ∧ m < hour) ∧ ∀ m ∈ q.2, m ∈ ms := by
  obtain ⟨p, hp, rfl, h2⟩ := mem_useful.mp h
  exact ⟨told_nd hp, fun m hm => told_lt hp hm, h2⟩
theorem cover_bits {hour : Int} {ms : List Int} (hok : OkMins hour ms) (ws : List Pm) (h : ∀ q ∈ ws, q ∈ useful hour ms) : un (ws.map (encP idL)) = bitsOf ms ↔ ∀ m ∈ ms, ∃ q ∈ ws, m ∈ q.2 := by
  have h1 := un_bits (f := idL) ws fun q hq => ⟨(useful_nn (h q hq)).1, fun m hm => ((useful_nn (h q hq)).2.1 m hm).1⟩
  have h2 := bits_sum (mins_nd hok) fun m hm => (hok.2.2 m hm).1
  rw [h1.eq h2]
  constructor
  · intro e m hm
    have := hok.2.2 m hm
    have em : ((m.toNat : Nat) : Int) = m := Int.toNat_of_nonneg this.1
    obtain ⟨q, hq, hz⟩ := (e m.toNat).mpr (by rw [em]; exact hm)
    exact ⟨q, hq, by rw [em] at hz; exact hz⟩
  · intro e i
    constructor
    · rintro ⟨q, hq, hz⟩
      exact (useful_nn (h q hq)).2.2 _ hz
    · intro hm
      exact e _ hm
/-- the single minutes cover -/
def single (m : Int) : Pm := (wordOf (m, 0), toldOf 0 (m, 0))
theorem single_in {hour : Int} {ms : List Int} (hok : OkMins hour ms) {m : Int} (hm : m ∈ ms) : (numS m, [m]) ∈ useful hour ms := by
  have h := hok.2.2 m hm
  refine mem_useful.mpr ⟨(m, 0), mem_pcs.mpr (.inl ⟨rfl, h.1, h.2⟩), rfl, fun x hx => ?_⟩
  have : x = m := by simpa [toldOf] using hx
  rw [this]
  exact hm
theorem single_cov {hour : Int} {ms : List Int} (hok : OkMins hour ms) : CovM (useful hour ms) ms (ms.map fun m => (numS m, [m])) :=
  ⟨fun q hq => by
    obtain ⟨m, hm, rfl⟩ := List.mem_map.mp hq
    exact single_in hok hm, fun m hm => ⟨(numS m, [m]), List.mem_map.mpr ⟨m, hm, rfl⟩, by simp⟩⟩
theorem num_len3 {m : Int} (h : 0 ≤ m ∧ m < 1000) : (numS m).length ≤ 3 := by
  have e : (numS m).length = (TL.numL m.toNat).length := by
    rw [TL.len_tl]
    exact congrArg List.length (tl_numS h.1)
  rw [e]
  exact TL.numL_len (by decide) (by omega)
theorem single_len : ∀ {ms : List Int}, (∀ m ∈ ms, 0 ≤ m ∧ m < 1000) → (txM (ms.map fun m => (numS m, [m]))).length ≤ 4 * ms.length
  | [], _ => Nat.zero_le _
  | m :: r, h => by
    have ih := single_len (ms := r) fun x hx => h x (List.mem_cons_of_mem _ hx)
    have := num_len3 (h m (List.mem_cons_self ..))
    have e : txM ((m :: r).map fun m => (numS m, [m])) = ((numS m).cps.toList ++ [32]) ++ txM (r.map fun m => (numS m, [m])) := rfl
    have e2 : (numS m).cps.toList.length = (numS m).length := Array.length_toList
    rw [e, List.length_append, List.length_append, e2, List.length_singleton, List.length_cons]
    omega
theorem enc_single (ms : List Int) : (tx ((ms.map fun m => (numS m, [m])).map (encP idL))).length = (txM (ms.map fun m => (numS m, [m]))).length := by rw [tx_enc]
theorem useful_len {hour : Int} {ms : List Int} (hok : OkMins hour ms) : (useful hour ms).length ≤ 1002000 := by
  unfold useful
  rw [List.length_map]
  refine Nat.le_trans (List.length_filter_le _ _) ?_
  unfold allWords
  rw [sortW_len, List.length_map]
  exact len_pcs hour hok.1
theorem useful_word {hour : Int} {ms : List Int} (hok : OkMins hour ms) {q : Pm} (h : q ∈ useful hour ms) : q.1.length ≤ 13 := by
  obtain ⟨p, hp, rfl, _⟩ := mem_useful.mp h
  have := codes_len hok.1.2 hp
  have e : (codes p).length = (wordOf p).length := Array.length_toList
  show (wordOf p).length ≤ 13
  omega
theorem pre_cc {hour : Int} {ms : List Int} (hok : OkShort hour ms) : CcPre ((useful hour ms).map (encP idL)) (bitsOf ms) (4 * ms.length) where
  len := by
    rw [List.length_map]
    have := useful_len hok.1
    omega
  wl := fun p hp => by
    obtain ⟨q, hq, rfl⟩ := List.mem_map.mp hp
    exact useful_word hok.1 hq
  al := by
    have nn : ∀ m ∈ ms, 0 ≤ m := fun m hm => (hok.1.2.2 m hm).1
    refine ⟨subsB ms, ⟨subsB_mem nn 0 fun i z => by simp at z, fun k hk p hp => ?_, ?_⟩⟩
    · obtain ⟨q, hq, rfl⟩ := List.mem_map.mp hp
      obtain ⟨N, rfl, a⟩ := subsB_of nn k hk
      have u := useful_nn hq
      obtain ⟨M, e, b⟩ := bits_sum u.1 fun m hm => (u.2.1 m hm).1
      have e2 : (encP idL q).2 = (M : Int) := e
      rw [e2, bitOr_nn (Int.natCast_nonneg _) (Int.natCast_nonneg _), Int.toNat_natCast, Int.toNat_natCast]
      refine subsB_mem nn _ fun i hi => ?_
      rw [Nat.testBit_or, Bool.or_eq_true] at hi
      rcases hi with hi | hi
      · exact a i hi
      · exact u.2.2 _ ((b i).mp hi)
    · rw [subsB_len]
      have := Nat.pow_le_pow_right (n := 2) (by decide) hok.2
      have e : (2 : Nat) ^ 16 = 65536 := by decide
      omega
  ws := by
    have hc := single_cov hok.1
    refine ⟨(ms.map fun m => (numS m, [m])).map (encP idL), fun p hp => ?_, (cover_bits hok.1 _ hc.1).mpr hc.2, ?_⟩
    · obtain ⟨q, hq, rfl⟩ := List.mem_map.mp hp
      exact List.mem_map.mpr ⟨q, hc.1 q hq, rfl⟩
    · unfold sz
      rw [enc_single]
      have := single_len (ms := ms) fun m hm => by
        have := hok.1.2.2 m hm
        have := hok.1.1
        omega
      omega
  b := by
    have := hok.2
    omega
section
variable {P : Program} {w : World} {K : PySem.W.Frag} {mg : Str → Option Value} {base : Heap}
theorem bestOf_M {hour : Int} {ms : List Int} (hok : OkMins hour ms) : bestOf ((useful hour ms).map (encP idL)) (bitsOf ms) = bestM (useful hour ms) ms := by
  by_cases h : ∃ t, IsBestM (useful hour ms) ms t
  · obtain ⟨t, ht⟩ := h
    rw [bestM_is ht, bestOf_is ((best_enc (cover_bits hok)).mpr ht)]
  · have h2 : ¬ ∃ t, IsBest ((useful hour ms).map (encP idL)) (bitsOf ms) t := fun ⟨t, ht⟩ => h ⟨t, (best_enc (cover_bits hok)).mp ht⟩
    unfold bestOf bestM
    rw [dif_neg h, dif_neg h2]
theorem ok_shortest_minutes (T : Tx K mg) : Cal P w K mg base 5 "shortest_minutes" (Sp2 OkShort shortM) [] := by
  have c_bits_of := ok_bits_of (P := P) (w := w) (base := base) T
  have c_check_minutes_told := ok_check_minutes_told (P := P) (w := w) (base := base) T
  have c_first_cover := ok_first_cover (P := P) (w := w) (base := base) T
  have c_useful_pieces := ok_useful_pieces (P := P) (w := w) (base := base) T
  refine cal_of T.t_shortest_minutes sc_shortest_minutes (fun _ _ _ _ _ _ us hl => match us, hl with | [_, _], _ => rfl) Sp2.len (fun cdv A outer s H vs Q E hr h => ?_)
  have nd := sc_shortest_minutes.nd
  have hu := hu_of hr
  refine ⟨_, PSs.nox (pss_cons (ps_expr (pe_c c_check_minutes_told hr (by decide) (by rfl) (pa_cons (pv 0) (pa_cons (pv 1) pa_nil))))
    (pss_cons (ps_setLc (i := 4) (own := [("word", 2), ("told", 3)]) rfl nd rfl rfl (sw_true rfl rfl rfl (by decide +kernel)) (show PI _ _ _ (iList K _) from (pi_list (pe_c c_useful_pieces hr (by decide) (by rfl) (pa_cons (pv 0) (pa_cons (pv 1) pa_nil))))) (blkOk_by (N := N_shortest_minutes) (sc := (defScope s_shortest_minutes)) (by decide +kernel)) (fun _ _ _ _ _ => (show PG _ _ (gTup K 2 _) from (pg_tup (by rfl) (pgs_cons (pg_name (i := 2) nd rfl (by first | exact Or.inl rfl | exact Or.inr rfl)) (pgs_cons (pg_name (i := 3) nd rfl (by first | exact Or.inl rfl | exact Or.inr rfl)) pgs_nil))))) (fun _ _ _ _ _ => pts_nil) (fun _ _ _ _ _ => (pe_tup (pa_cons (pv 2) (pa_cons (pe_c c_bits_of hr (by decide) (by rfl) (pa_cons (pv 3) pa_nil)) pa_nil)))))
    (pss_cons (ps_set (i := 5) nd rfl (by first | exact Or.inl rfl | exact Or.inr rfl) (pe_c c_bits_of hr (by decide) (by rfl) (pa_cons (pv 1) pa_nil)))
    (pss_one (ps_ret (pe_ifExp (pt_cmpR (show OpR _ _ (rNeD K) from op_neD hr.units) (pv 1) (pe_lst pa_nil) (nomark _)) (pe_c c_first_cover hr (by decide) (by rfl) (pa_cons (pv 4) (pa_cons (pv 5) pa_nil))) pe_str)))))), ?_⟩
  obtain ⟨F, v, w, hour, ms, rfl, s, r, r2, hok, q⟩ := h
  have hl := hok.2
  refine st_drop s (ev_call2 (pre := OkMins) (f := fun _ _ => ()) (a := hour) (b := ms) hok.1 (ev_var rfl r) (ev_var rfl r2)) fun F1 H1 g1 => ?_
  have tl : ∀ {x : List Int}, (∃ y ∈ useful hour ms, x = y.2) → x.length ≤ 1000 ∧ ∀ m ∈ x, 0 ≤ m ∧ m ≤ 1000 := fun {x} ⟨y, hy, e⟩ => by
    obtain ⟨p, hp, rfl, _⟩ := mem_useful.mp hy
    subst e
    refine ⟨told_len hp hok.1.1.2, fun m hm => ?_⟩
    have := told_lt hp hm
    have := hok.1.1
    omega
  have comp : Ev (tLc (iList K (tCall (Sp2 OkMins useful) [] E0 (tCons (tVar 0) (tCons (tVar 1) tNil)))) (gTup K 2 (gCons (gName 2) (gCons (gName 3) gNil))) tYes (tTup (tCons (tVar 2) (tCons (tCall (Sp1 (fun ms : List Int => ms.length ≤ 1000 ∧ ∀ m ∈ ms, 0 ≤ m ∧ m ≤ 1000) bitsOf) [] E0 (tCons (tVar 3) tNil)) tNil))) [2, 3]) [some v, some w, none, none, none, none] F1 H1 ((useful hour ms).map (encP idL)) := by
    refine ev_map2 (ei_list (ev_call2 (pre := OkMins) (f := useful) (a := hour) (b := ms) hok.1 (ev_var rfl (Rep.mono g1.fr r)) (ev_var rfl (Rep.mono g1.fr r2)))) ?_ (fun _ _ => rfl) fun n z hz F2 H2 x y g2 rx ry => ev_tup2 (ev_var rfl rx) (ev_call1 (pre := fun ms : List Int => ms.length ≤ 1000 ∧ ∀ m ∈ ms, 0 ≤ m ∧ m ≤ 1000) (f := bitsOf) (a := z.2) (tl ⟨z, List.mem_of_getElem? hz, rfl⟩) (ev_var rfl ry))
    have := useful_len hok.1
    rw [sizeLine_eq]
    omega
  refine st_asg g1.sub comp fun vp F2 H2 g2 rp => ?_
  refine st_asg g2.sub (ev_call1 (pre := fun ms : List Int => ms.length ≤ 1000 ∧ ∀ m ∈ ms, 0 ≤ m ∧ m ≤ 1000) (f := bitsOf) (a := ms) ⟨by omega, fun m hm => by
    have := hok.1.2.2 m hm
    have := hok.1.1
    omega⟩ (ev_var rfl (Rep.mono (g1.fr.trans g2.fr) r2))) fun vw F3 H3 g3 rw3 => ?_
  refine st_ret (a := shortM hour ms) g3.sub (ev_if (k := !decide (ms = [])) (et_test (ev_neD (α := List Int) (a := ms) (b := []) (by decide) (ev_var rfl (Rep.mono (g1.fr.trans (g2.fr.trans g3.fr)) r2)) ev_lst0)) (fun e => Ev.is (ev_call2 (pre := fun (pcs : List Pc) (whole : Int) => ∃ B, CcPre pcs whole B) (f := bestOf) (a := (useful hour ms).map (encP idL)) (b := bitsOf ms) ⟨_, pre_cc hok⟩ (ev_var rfl (Rep.mono g3.fr rp)) (ev_var rfl rw3)) ?_) fun e => Ev.is ev_s ?_) fun u F4 H4 g4 r4 => q u F4 H4 (g1.trans (g2.trans (g3.trans g4))) r4
  · have e : ¬ ms = [] := by simpa using e
    unfold shortM
    rw [if_neg e, bestOf_M hok.1]
  · have e : ms = [] := by simpa using e
    unfold shortM
    rw [if_pos e, nul_eq]
end
end K90
set_option maxHeartbeats 4000000
namespace K90
open PySem PySem.Spec PyProof.Rows L2 SX Ly
/-! ### the law's own search, by sizes -/
abbrev Tb := List (Int × Str)
structure TabS (pcs : List Pc) (s : Int) (t : Tb) : Prop where
  nd : (t.map (·.1)).Nodup
  snd : ∀ k x, look t k = some x → ∃ ws, Of pcs ws ∧ un ws = k ∧ tx ws = x.cps.toList ∧ sz ws = s
structure Tab (pcs : List Pc) (s : Int) (t : Tb) : Prop extends TabS pcs s t where
  all : ∀ ws, Of pcs ws → sz ws = s → ∃ x, look t (un ws) = some x ∧ x.cps.toList ≤ tx ws
def LeT (t : Tb) (k : Int) (l : List Nat) : Prop := ∃ x, look t k = some x ∧ x.cps.toList ≤ l
theorem TabS.len {pcs : List Pc} {all : List Int} {s : Int} {t : Tb} (A : Allowed pcs all) (h : TabS pcs s t) : t.length ≤ 100000 := by
  have := nd_len (l := all) h.nd fun k hk => by
    have hk := look_some_mem.mpr hk
    cases e : look t k with
    | none => rw [e] at hk; cases hk
    | some d =>
      obtain ⟨ws, h1, h2, _⟩ := h.snd k d e
      exact h2 ▸ A.of ws h1
  rw [List.length_map] at this
  exact Nat.le_trans this A.len
theorem tab_zero (pcs : List Pc) : Tab pcs 0 [(0, S [])] := by
  refine ⟨⟨by simp, fun k x e => ?_⟩, fun ws ho hz => ?_⟩
  · have h := look_mem e
    have : k = 0 ∧ x = S [] := by simpa using h
    rw [this.1, this.2]
    exact ⟨[], fun _ h => absurd h (by simp), rfl, rfl, rfl⟩
  · have : ws = [] := by
      rcases List.eq_nil_or_concat ws with e | ⟨ws0, p0, e⟩
      · exact e
      · rw [List.concat_eq_append] at e
        subst e
        rw [sz_snoc] at hz
        have := psz_pos p0
        have := sz_nn ws0
        omega
    subst this
    exact ⟨S [], rfl, List.le_refl _⟩
/-- min(old or new, new) -/
def minT (t : Tb) (k : Int) (c : Str) : Str := if c.cps.toList < ((look t k).getD c).cps.toList then c else (look t k).getD c
theorem minT_le (t : Tb) (k : Int) (c : Str) : (minT t k c).cps.toList ≤ c.cps.toList ∧ (∀ x, look t k = some x → (minT t k c).cps.toList ≤ x.cps.toList) ∧ (minT t k c = c ∨ look t k = some (minT t k c)) := by
  unfold minT
  cases e : look t k with
  | none =>
    show (if c.cps.toList < c.cps.toList then c else c).cps.toList ≤ _ ∧ _
    have : (if c.cps.toList < c.cps.toList then c else c) = c := by split <;> rfl
    refine ⟨by rw [this]; exact List.le_refl _, fun x h => by (cases h), .inl this⟩
  | some x =>
    by_cases h : c.cps.toList < x.cps.toList
    · have e2 : (if c.cps.toList < ((some x).getD c).cps.toList then c else (some x).getD c) = c := if_pos h
      rw [e2]
      exact ⟨List.le_refl _, fun y hy => by cases hy; exact List.le_of_lt h, .inl rfl⟩
    · have e2 : (if c.cps.toList < ((some x).getD c).cps.toList then c else (some x).getD c) = x := if_neg h
      rw [e2]
      exact ⟨List.not_lt.mp h, fun y hy => by cases hy; exact List.le_refl _, .inr rfl⟩
theorem TabS.put {pcs : List Pc} {s s0 : Int} {t t0 : Tb} (T : TabS pcs s t) (T0 : TabS pcs s0 t0) {k : Int} {y : Str} {p : Pc} (hp : p ∈ pcs) (hy : look t0 k = some y) (hs : s0 + psz p = s) :
    TabS pcs s (putD t (Builtin.bitOr k p.2) (minT t (Builtin.bitOr k p.2) (addW y p))) ∧ LeT (putD t (Builtin.bitOr k p.2) (minT t (Builtin.bitOr k p.2) (addW y p))) (Builtin.bitOr k p.2) (addW y p).cps.toList ∧
      ∀ k' l, LeT t k' l → LeT (putD t (Builtin.bitOr k p.2) (minT t (Builtin.bitOr k p.2) (addW y p))) k' l := by
  obtain ⟨h1, h2, h3⟩ := minT_le t (Builtin.bitOr k p.2) (addW y p)
  refine ⟨⟨put_keys _ _ _ T.nd, fun k' x e => ?_⟩, ⟨_, by rw [look_put, if_pos rfl], h1⟩, fun k' l ⟨x, e, le⟩ => ?_⟩
  · rw [look_put] at e
    by_cases z : Builtin.bitOr k p.2 = k'
    · rw [if_pos z] at e
      have e := Option.some.inj e
      rcases h3 with h3 | h3
      · obtain ⟨ws, o, u, t1, z1⟩ := T0.snd k y hy
        refine ⟨ws ++ [p], o.snoc hp, by rw [un_snoc, u, z], ?_, by rw [sz_snoc, z1, hs]⟩
        rw [tx_snoc, t1, ← e, h3]
        rfl
      · exact T.snd k' x (by rw [← z, h3, e])
    · rw [if_neg z] at e
      exact T.snd k' x e
  · by_cases z : Builtin.bitOr k p.2 = k'
    · exact ⟨_, by rw [look_put, if_pos z], List.le_trans (h2 x (by rw [z]; exact e)) le⟩
    · exact ⟨x, by rw [look_put, if_neg z]; exact e, le⟩
/-- all that a piece adds, by the table before -/
theorem piece_adds {pcs : List Pc} {s0 : Int} {t0 t : Tb} (T0 : Tab pcs s0 t0) {p : Pc} (h : ∀ k y, look t0 k = some y → LeT t (Builtin.bitOr k p.2) (addW y p).cps.toList) (ws : List Pc) (ho : Of pcs ws) (hz : sz ws = s0) : LeT t (un (ws ++ [p])) (tx (ws ++ [p])) := by
  obtain ⟨y, e, le⟩ := T0.all ws ho hz
  obtain ⟨x, e2, le2⟩ := h _ y e
  rw [un_snoc, tx_snoc]
  refine ⟨x, e2, List.le_trans le2 (app_le _ ?_ le)⟩
  obtain ⟨ws1, o, u, t1, z1⟩ := T0.snd _ y e
  rw [← t1]
  unfold sz at hz z1
  omega
theorem tab_all {pcs : List Pc} {s : Int} {t : Tb} (T : TabS pcs s t) (hs : 0 < s) (h : ∀ ws p, Of pcs (ws ++ [p]) → sz (ws ++ [p]) = s → LeT t (un (ws ++ [p])) (tx (ws ++ [p]))) : Tab pcs s t := ⟨T, fun ws ho hz => by
  rcases List.eq_nil_or_concat ws with e | ⟨ws0, p0, e⟩
  · subst e
    have : sz [] = 0 := rfl
    omega
  · rw [List.concat_eq_append] at e
    subst e
    exact h ws0 p0 ho hz⟩
/-- positions -/
theorem idx_inj {ms : List Int} {x y : Int} (hx : x ∈ ms) (hy : y ∈ ms) (e : ms.idxOf x = ms.idxOf y) : x = y := by
  have a := List.getElem_idxOf (List.idxOf_lt_length_of_mem hx)
  have b := List.getElem_idxOf (List.idxOf_lt_length_of_mem hy)
  have a' : ms[ms.idxOf x]? = some x := by rw [List.getElem?_eq_getElem (List.idxOf_lt_length_of_mem hx), a]
  have b' : ms[ms.idxOf y]? = some y := by rw [List.getElem?_eq_getElem (List.idxOf_lt_length_of_mem hy), b]
  rw [e, b'] at a'
  exact (Option.some.inj a').symm
def posL (ms : List Int) (l : List Int) : List Int := l.map fun m => ((ms.idxOf m : Nat) : Int)
theorem pos_nd {ms l : List Int} (h : l.Nodup) (hs : ∀ m ∈ l, m ∈ ms) : (posL ms l).Nodup := by
  unfold posL
  induction l with
  | nil => exact List.nodup_nil
  | cons m r ih =>
    rw [List.nodup_cons] at h
    rw [List.map_cons, List.nodup_cons]
    refine ⟨fun hm => ?_, ih h.2 fun x hx => hs x (List.mem_cons_of_mem _ hx)⟩
    obtain ⟨x, hx, e⟩ := List.mem_map.mp hm
    have e2 : ms.idxOf x = ms.idxOf m := by omega
    have : x = m := idx_inj (hs x (List.mem_cons_of_mem _ hx)) (hs m (List.mem_cons_self ..)) e2
    exact h.1 (this ▸ hx)
theorem cover_pos {hour : Int} {ms : List Int} (hok : OkMins hour ms) (ws : List Pm) (h : ∀ q ∈ ws, q ∈ useful hour ms) : un (ws.map (encP (posL ms))) = ((2 ^ ms.length : Nat) - 1 : Int) ↔ ∀ m ∈ ms, ∃ q ∈ ws, m ∈ q.2 := by
  have h1 := un_bits (f := posL ms) ws fun q hq => ⟨pos_nd (useful_nn (h q hq)).1 (useful_nn (h q hq)).2.2, fun m hm => by
    obtain ⟨x, _, rfl⟩ := List.mem_map.mp hm
    omega⟩
  rw [h1.eq (bits_ones ms.length)]
  constructor
  · intro e m hm
    have hl := List.idxOf_lt_length_of_mem hm
    obtain ⟨q, hq, hz⟩ := (e (ms.idxOf m)).mpr hl
    obtain ⟨x, hx, ex⟩ := List.mem_map.mp hz
    have e2 : ms.idxOf x = ms.idxOf m := by omega
    have hx' := (useful_nn (h q hq)).2.2 x hx
    have : x = m := idx_inj hx' hm e2
    exact ⟨q, hq, this ▸ hx⟩
  · intro e i
    constructor
    · rintro ⟨q, hq, hz⟩
      obtain ⟨x, hx, ex⟩ := List.mem_map.mp hz
      have := List.idxOf_lt_length_of_mem ((useful_nn (h q hq)).2.2 x hx)
      omega
    · intro hi
      have hm := List.getElem_mem hi
      obtain ⟨q, hq, hz⟩ := e _ hm
      refine ⟨q, hq, List.mem_map.mpr ⟨_, hz, ?_⟩⟩
      have := (mins_nd hok).idxOf_getElem i hi
      rw [this]
end K90
set_option maxHeartbeats 4000000
namespace Ly
open PySem PySem.Spec PyProof.Rows L2 SX
open Rep
/-- a comprehension within a comprehension -/
theorem relab_free {env : Env} (f : Str × NameKind → Str × NameKind) (hf : ∀ n k, f (n, k) = (n, k) ∨ (k = .free ∧ f (n, k) = (n, .cell))) : ∀ {names : List (Str × NameKind)} {x : Str}, names.lookup x = some .cell ∨ names.lookup x = some .free → (names.map f).lookup x = some .cell ∨ (names.map f).lookup x = some .free
  | [], x, h => by simp at h
  | (n, k) :: r, x, h => by
    rw [List.map_cons]
    cases hx : x == n with
    | true =>
      rw [List.lookup_cons, hx] at h
      rcases hf n k with e | ⟨e1, e2⟩
      · rw [e, List.lookup_cons, hx]
        exact h
      · rw [e2, List.lookup_cons, hx]
        exact .inl rfl
    | false =>
      rw [List.lookup_cons, hx] at h
      have ih := relab_free (env := env) f hf h
      rcases hf n k with e | ⟨e1, e2⟩
      · rw [e, List.lookup_cons, hx]
        exact ih
      · rw [e2, List.lookup_cons, hx]
        exact ih
theorem blkOk_in {N : List Str} {sc scope : Scope} {own : List (Str × Nat)} {cl : List (Str × Addr)} {C : Addr} {env : Env} (h : blkC N sc scope own = true) : BlkOk N (compEnvC sc cl C env).scope scope own := by
  have b := blkOk_by h
  refine ⟨b.kind, b.uniq, b.ix, fun y hy e => relab_free (env := env) _ (fun n k => ?_) (b.free y hy e), b.own⟩
  show (if (k == NameKind.free && env.scope.kind == .function && env.kindOf n == some .cell) = true then (n, NameKind.cell) else (n, k)) = (n, k) ∨ _
  split
  · rename_i z
    rw [Bool.and_eq_true, Bool.and_eq_true] at z
    refine .inr ⟨by cases k <;> first | rfl | exact absurd z.1.1 (by decide), ?_⟩
    show (if (k == NameKind.free && env.scope.kind == .function && env.kindOf n == some .cell) = true then (n, NameKind.cell) else (n, k)) = _
    rw [if_pos (by rw [Bool.and_eq_true, Bool.and_eq_true]; exact z)]
  · exact .inl rfl
theorem st_seqR {t u : TS} {D : Ends} {σ : L2.St} {H : Hp} (h : t { D with nx := u D } σ H) : tSeq t u D σ H := h
theorem st_parR {i j : Nat} {ta : TA} {D : Ends} {σ : L2.St} {H : Hp} (h : ta σ H fun vs H1 => ∃ v w, vs = [v, w] ∧ D.nx ((σ.set i (some v)).set j (some w)) H1) : tPar i j ta D σ H := h
theorem st_consLst {td : TE} {t : TA} {σ : L2.St} {H : Hp} {Q : List V → Hp → Prop} (h : td σ H fun v H1 => 1 ≤ sizeLine ∧ ∀ p, H1 p = none → t σ (upd H1 p (.lst [v])) fun vs H2 => Q (.ref p :: vs) H2) : tCons (tLst (tCons td tNil)) t σ H Q := h
theorem st_cons1 {te : TE} {σ : L2.St} {H : Hp} {Q : List V → Hp → Prop} (h : te σ H fun v H1 => Q [v] H1) : tCons te tNil σ H Q := h
/-- a live list, read at n -/
theorem evv_ix {K : PySem.W.Frag} {σ : L2.St} {F H : Hp} {ti : TE} {i n : Nat} {p : Addr} {vs : List V} {v : V} (hv : σ[i]? = some (some (.ref p))) (e : H p = some (.lst vs)) (hn : vs[n]? = some v) (hi : Ev ti σ F H (n : Int)) : EvV (tOp (rIxL K) (tVar i) ti) σ F H v := fun F1 H1 g Q q =>
  ⟨_, hv, hi F1 H1 g _ fun u F2 H2 g2 ru => ⟨p, vs, (n : Int), v, rfl, ru, .inl (.inl (Gr.at (g.trans g2) e)), atI_nat hn, q F2 H2 g2⟩⟩
theorem gr_less {F H F1 H1 : Hp} {p : Addr} {u : HO} (g : Gr F H F1 H1) : Gr (less F p) (upd H p u) (less F1 p) (upd H1 p u) where
  fr := fun a x h => by
    by_cases z : a = p
    · rw [z, less_same] at h; cases h
    · rw [less_ne z] at h ⊢; exact g.fr a x h
  sub := fun a x h => by
    by_cases z : a = p
    · rw [z, less_same] at h; cases h
    · rw [less_ne z] at h
      rw [upd_ne z]
      exact g.sub a x h
  hp := fun a x m h => by
    by_cases z : a = p
    · rw [z, upd_same] at h ⊢; exact h
    · rw [upd_ne z] at h ⊢; exact g.hp a x m h
  new := fun a x h => by
    by_cases z : a = p
    · rw [z, less_same, less_same]
    · rw [upd_ne z] at h
      rw [less_ne z, less_ne z]
      exact g.new a x h
  dom := fun a x h => by
    by_cases z : a = p
    · rw [z]; exact ⟨u, upd_same⟩
    · rw [upd_ne z] at h ⊢
      exact g.dom a x h
theorem less_upd {F : Hp} {p : Addr} {x : HO} (f : F p = none) : less (upd F p x) p = F := funext fun a => by
  by_cases z : a = p
  · rw [z, less_same, f]
  · rw [less_ne z, upd_ne z]
theorem upd_back {H : Hp} {p : Addr} {x u : HO} (e : H p = some u) : upd (upd H p x) p u = H := funext fun a => by
  by_cases z : a = p
  · rw [z, upd_same, e]
  · rw [upd_ne z, upd_ne z]
theorem upd_swap {H : Hp} {p q : Addr} {x y : HO} (n : p ≠ q) : upd (upd H p x) q y = upd (upd H q y) p x := funext fun a => by
  by_cases z : a = q
  · rw [z, upd_same, upd_ne (fun e => n e.symm), upd_same]
  · rw [upd_ne z]
    by_cases w : a = p
    · rw [w, upd_same, upd_same]
    · rw [upd_ne w, upd_ne w, upd_ne z]
theorem ev_min2S {σ : L2.St} {F H : Hp} {ta tb : TE} {x y : Str} (ha : Ev ta σ F H x) (hb : Ev tb σ F H y) : Ev (tCB rMinS (tCons ta (tCons tb tNil))) σ F H (if y.cps.toList < x.cps.toList then y else x) := ev_cb2 (fun F H vs Q s ⟨v, u, e, r1, r2⟩ q => ⟨x, y, by rw [e, show v = V.str x from r1, show u = V.str y from r2], q _ F H (Grow.refl s) rfl⟩) ha hb
end Ly
namespace K90
open PySem PySem.Spec PyProof.Rows L2 SX Ly
open Rep
def tK (t : Tb) : List (Key × V) := t.map fun d => (Sum.inl d.1, V.str d.2)
theorem tK_rel (F : Hp) : ∀ t : Tb, Paired (DRel F) (tK t) t
  | [] => .nil
  | d :: r => .cons ⟨rfl, rfl⟩ (tK_rel F r)
theorem tK_of {F : Hp} : ∀ {kvs : List (Key × V)} {t : Tb}, Paired (DRel F) kvs t → kvs = tK t
  | _, _, .nil => rfl
  | _, _, .cons (a := a) (b := b) h t => by
    rw [tK_of t]
    show a :: _ = (Sum.inl b.1, V.str b.2) :: _
    congr 1
    exact Prod.ext h.1 h.2
structure TS (F0 H0 : Hp) (ra : Addr) (as : List Addr) (tabs : List Tb) (F H : Hp) : Prop where
  gr : Gr F0 H0 F H
  nr : H0 ra = none
  fr : F ra = none
  hr : H ra = some (.lst (as.map V.ref))
  len : as.length = tabs.length
  ent : ∀ (i : Nat) a t, as[i]? = some a → tabs[i]? = some t → H a = some (.dK (tK t)) ∧ H0 a = none ∧ F a = none
structure HS (F0 H0 : Hp) (as : List Addr) (ha : Addr) (hd : Tb) (F H : Hp) : Prop where
  hh : H ha = some (.dK (tK hd))
  n0 : H0 ha = none
  fh : F ha = none
  ne : ∀ a ∈ as, a ≠ ha
section
variable {F0 H0 F H F1 H1 : Hp} {ra ha : Addr} {as : List Addr} {tabs : List Tb} {hd : Tb}
theorem TS.grow (T : TS F0 H0 ra as tabs F H) (g : Gr F H F1 H1) : TS F0 H0 ra as tabs F1 H1 :=
  ⟨T.gr.trans g, T.nr, g.live T.hr T.fr, g.at T.hr, T.len, fun i a t h1 h2 => by
    obtain ⟨a1, a2, a3⟩ := T.ent i a t h1 h2
    exact ⟨g.at a1, a2, g.live a1 a3⟩⟩
theorem HS.grow (S : HS F0 H0 as ha hd F H) (g : Gr F H F1 H1) : HS F0 H0 as ha hd F1 H1 := ⟨g.at S.hh, S.n0, g.live S.hh S.fh, S.ne⟩
theorem TS.puth (T : TS F0 H0 ra as tabs F H) (S : HS F0 H0 as ha hd F H) {x : HO} : TS F0 H0 ra as tabs F (upd H ha x) := by
  have nr : ra ≠ ha := fun e => by
    have := T.hr
    rw [e, S.hh] at this
    cases this
  exact ⟨T.gr.put (.inl S.n0) S.fh, T.nr, T.fr, by rw [upd_ne nr]; exact T.hr, T.len, fun i a t h1 h2 => by
    obtain ⟨a1, a2, a3⟩ := T.ent i a t h1 h2
    exact ⟨by rw [upd_ne (S.ne a (List.mem_of_getElem? h1))]; exact a1, a2, a3⟩⟩
theorem HS.put (S : HS F0 H0 as ha hd F H) {hd' : Tb} {kvs : List (Key × V)} (h : Paired (DRel F1) kvs hd') : HS F0 H0 as ha hd' F (upd H ha (.dK kvs)) := ⟨by rw [upd_same, tK_of h], S.n0, S.fh, S.ne⟩
/-- here is put behind -/
theorem TS.app (T : TS F0 H0 ra as tabs F H) (S : HS F0 H0 as ha hd F H) : TS F0 H0 ra (as ++ [ha]) (tabs ++ [hd]) F (upd H ra (.lst (as.map V.ref ++ [.ref ha]))) := by
  have nr : ha ≠ ra := fun e => by
    have := T.hr
    rw [← e, S.hh] at this
    cases this
  refine ⟨T.gr.put (.inl T.nr) T.fr, T.nr, T.fr, by rw [upd_same, List.map_append]; rfl, by rw [List.length_append, List.length_append, T.len]; rfl, fun i a t h1 h2 => ?_⟩
  by_cases hi : i < as.length
  · rw [List.getElem?_append_left hi] at h1
    rw [List.getElem?_append_left (by rw [← T.len]; exact hi)] at h2
    obtain ⟨a1, a2, a3⟩ := T.ent i a t h1 h2
    exact ⟨by rw [upd_ne (fun e => by rw [e, T.hr] at a1; cases a1)]; exact a1, a2, a3⟩
  · have hi' : i = as.length := by
      have := (List.getElem?_eq_some_iff.mp h1).1
      simp at this
      omega
    subst hi'
    rw [List.getElem?_append_right (Nat.le_refl _), Nat.sub_self] at h1
    rw [T.len, List.getElem?_append_right (Nat.le_refl _), Nat.sub_self] at h2
    cases h1
    cases h2
    exact ⟨by rw [upd_ne nr]; exact S.hh, S.n0, S.fh⟩
end
/-- the spots of the minutes -/
def spotsOf (ms : List Int) : List (Int × Int) := (Ly.numbered ms).map fun z => (z.2, 1 * 2 ^ z.1.toNat)
theorem spots_from (m : Int) : ∀ (ms : List Int) (k : Nat), look ((ms.zipIdx k).map fun p => (p.1, (1 : Int) * 2 ^ ((p.2 : Int)).toNat)) m = if m ∈ ms then some (1 * 2 ^ (k + ms.idxOf m)) else none
  | [], k => rfl
  | x :: r, k => by
    rw [List.zipIdx_cons, List.map_cons]
    by_cases e : x = m
    · subst e
      rw [look_pos (p := (x, (1 : Int) * 2 ^ ((k : Int)).toNat)) rfl, if_pos (List.mem_cons_self ..), List.idxOf_cons_self]
      rfl
    · rw [look_neg (p := (x, (1 : Int) * 2 ^ ((k : Int)).toNat)) e, spots_from m r (k + 1), show (x :: r).idxOf m = r.idxOf m + 1 from by rw [List.idxOf_cons, show (x == m) = false from beq_false_of_ne e]; rfl]
      have : m ∈ x :: r ↔ m ∈ r := by
        rw [List.mem_cons]
        exact ⟨fun z => z.resolve_left fun z => e z.symm, .inr⟩
      simp only [this]
      split
      · congr 2
        show 2 ^ (k + 1 + r.idxOf m) = 2 ^ (k + (r.idxOf m + 1))
        congr 1
        omega
      · rfl
theorem spots_at (ms : List Int) (m : Int) : look (spotsOf ms) m = if m ∈ ms then some (1 * 2 ^ (ms.idxOf m)) else none := by
  have h := spots_from m ms 0
  have e : spotsOf ms = (ms.zipIdx 0).map fun p => (p.1, (1 : Int) * 2 ^ ((p.2 : Int)).toNat) := by
    unfold spotsOf Ly.numbered
    rw [List.map_map]
    rfl
  rw [e, h]
  simp
theorem spots_keys (ms : List Int) : (spotsOf ms).map (·.1) = ms := by
  unfold spotsOf Ly.numbered
  rw [List.map_map, List.map_map]
  have : (((fun p : Int × Int => p.1) ∘ fun z : Int × Int => (z.2, (1 : Int) * 2 ^ z.1.toNat)) ∘ fun p : Int × Nat => ((p.2 : Int), p.1)) = fun p : Int × Nat => p.1 := rfl
  rw [this, List.zipIdx_map_fst]
theorem told_self {hour : Int} {p : Int × Int} (h : p ∈ pcs hour) : p.1 ∈ toldOf hour p := by
  have hb := mem_pcs (m := p.1) (s := p.2) |>.mp h
  unfold toldOf
  split
  · simp
  · refine mem_rg3.mpr ⟨0, ?_, by omega⟩
    have hs : 0 < p.2 := by omega
    have e : Builtin.Range.rangeSize p.1 hour p.2 = (hour - p.1 - 1) / p.2 + 1 := by
      unfold Builtin.Range.rangeSize
      rw [if_pos hs, if_pos (by omega)]
    rw [e]
    have d0 : 0 ≤ (hour - p.1 - 1) / p.2 := Int.ediv_nonneg (by omega) (by omega)
    omega
theorem useful_nil (hour : Int) : useful hour [] = [] := by
  cases e : useful hour [] with
  | nil => rfl
  | cons q r =>
    obtain ⟨p, hp, rfl, h⟩ := mem_useful.mp (e ▸ List.mem_cons_self .. : q ∈ useful hour [])
    exact absurd (h _ (told_self hp)) (by simp)
def goodP (hour : Int) (ms : List Int) : List Pc := (useful hour ms).map (encP (posL ms))
theorem allowed_pos {hour : Int} {ms : List Int} (hok : OkShort hour ms) : Allowed (goodP hour ms) (subsB (ups 0 ms.length)) := by
  have nn : ∀ m ∈ ups 0 ms.length, 0 ≤ m := fun m hm => (mem_ups.mp hm).1
  refine ⟨subsB_mem nn 0 fun i z => by simp at z, fun k hk p hp => ?_, ?_⟩
  · obtain ⟨q, hq, rfl⟩ := List.mem_map.mp hp
    obtain ⟨N, rfl, a⟩ := subsB_of nn k hk
    have u := useful_nn hq
    obtain ⟨M, e, b⟩ := bits_sum (pos_nd u.1 u.2.2) fun m hm => by
      obtain ⟨x, _, rfl⟩ := List.mem_map.mp hm
      omega
    have e2 : (encP (posL ms) q).2 = (M : Int) := e
    rw [e2, bitOr_nn (Int.natCast_nonneg _) (Int.natCast_nonneg _), Int.toNat_natCast, Int.toNat_natCast]
    refine subsB_mem nn _ fun i hi => ?_
    rw [Nat.testBit_or, Bool.or_eq_true] at hi
    rcases hi with hi | hi
    · exact a i hi
    · obtain ⟨x, hx, ex⟩ := List.mem_map.mp ((b i).mp hi)
      have := List.idxOf_lt_length_of_mem (u.2.2 x hx)
      exact mem_ups.mpr (by omega)
  · rw [subsB_len, ups_len]
    have := Nat.pow_le_pow_right (n := 2) (by decide) hok.2
    have e : (2 : Nat) ^ 16 = 65536 := by decide
    omega
section
variable {P : Program} {w : World} {K : PySem.W.Frag} {mg : Str → Option Value} {base : Heap}
theorem ok__law_shortest (T : Tx K mg) : Cal P w K mg base 2 "_law_shortest" (Sp2 OkShort shortM) [] := by
  have c__law_pieces := ok__law_pieces (P := P) (w := w) (base := base) T
  refine cal_of T.t__law_shortest sc__law_shortest (fun _ _ _ _ _ _ us hl => match us, hl with | [_, _], _ => rfl) Sp2.len (fun cdv A outer s H vs Q E hr h => ?_)
  have nd := sc__law_shortest.nd
  have hu := hu_of hr
  refine ⟨_, PSs.nox (pss_cons (ps_asg (pe_tup (pa_cons (pe_c c__law_pieces hr (by decide) (by rfl) (pa_cons (pv 0) pa_nil)) (pa_cons (pe_callTy (o_dictp rfl) (by rfl) (T.m_dict) (by decide +kernel) (pa_cons (pe_lc (own := [("at", 2), ("minute", 3)]) rfl nd (pi_enum (by rfl) (T.m_enumerate) (pa_cons (pv 1) pa_nil)) (blkOk_by (N := N__law_shortest) (sc := (defScope s__law_shortest)) (by decide +kernel)) (fun _ _ _ _ _ => (show PG _ _ (gTup K 2 _) from (pg_tup (by rfl) (pgs_cons (pg_name (i := 2) nd rfl (by first | exact Or.inl rfl | exact Or.inr rfl)) (pgs_cons (pg_name (i := 3) nd rfl (by first | exact Or.inl rfl | exact Or.inr rfl)) pgs_nil))))) (fun _ _ _ _ _ => pts_nil) (fun _ _ _ _ _ => (pe_tup (pa_cons (pv 3) (pa_cons (pe_op o_shl pe_int (pv 2)) pa_nil))))) pa_nil)) pa_nil))) (show PG _ _ (gTup K 2 _) from (pg_tup (by rfl) (pgs_cons (pg_name (i := 4) nd rfl (by first | exact Or.inl rfl | exact Or.inr rfl)) (pgs_cons (pg_name (i := 5) nd rfl (by first | exact Or.inl rfl | exact Or.inr rfl)) pgs_nil)))))
    (pss_cons (ps_setLc (i := 7) (own := [("word", 6)]) rfl nd rfl rfl (sw_true rfl rfl rfl (by decide +kernel)) (show PI _ _ _ (iList K _) from (pi_list (pe_callB (o_sortedDS rfl) (by rfl) (T.m_sorted) (by decide +kernel) (pa_cons (pv 4) pa_nil)))) (blkOk_by (N := N__law_shortest) (sc := (defScope s__law_shortest)) (by decide +kernel)) (fun _ _ _ _ _ => (pg_name (i := 6) nd rfl (by first | exact Or.inl rfl | exact Or.inr rfl))) (fun _ _ _ _ _ => pts_one (pt_cmpR (show OpR _ _ (rEqD K) from op_eqD hr.units) (pe_lc (own := [("minute", 3)]) rfl nd (show PI _ _ _ (iList K _) from (pi_list (pe_dget hu (pv 4) (pv 6) (fun _ _ => rfl)))) (blkOk_in (N := N__law_shortest) (by decide +kernel)) (fun _ _ _ _ _ => (pg_name (i := 3) nd rfl (by first | exact Or.inl rfl | exact Or.inr rfl))) (fun _ _ _ _ _ => pts_one (pt_cmp (pc_dnotin hu (pv 3) (pv 5)) rfl)) (fun _ _ _ _ _ => (pv 3))) (pe_lst pa_nil) (nomark _))) (fun _ _ _ _ _ => (pe_tup (pa_cons (pv 6) (pa_cons (pe_callB (show CallR _ _ (rSum K) from cr_sum rfl) (by rfl) (T.m_sum) (by decide +kernel) (pa_cons (pe_lc (own := [("minute", 3)]) rfl nd (show PI _ _ _ (iList K _) from (pi_list (pe_dget hu (pv 4) (pv 6) (fun _ _ => rfl)))) (blkOk_in (N := N__law_shortest) (by decide +kernel)) (fun _ _ _ _ _ => (pg_name (i := 3) nd rfl (by first | exact Or.inl rfl | exact Or.inr rfl))) (fun _ _ _ _ _ => pts_nil) (fun _ _ _ _ _ => (pe_dget hu (pv 5) (pv 3) (fun _ _ => rfl)))) pa_nil)) pa_nil)))))
    (pss_cons (ps_par (i := 8) (j := 9) (by rfl) nd rfl rfl (by decide) rfl rfl (pa_cons (pe_lst (pa_cons (pe_disp (pps_cons pe_int pe_str pps_nil) (by rfl) (by rfl) (fun z => by cases z) (by decide)) pa_nil)) (pa_cons (pe_op o_sub (pe_op o_shl pe_int (pe_callB (show CallR _ _ (rLenL K) from o_lenl) (by rfl) (T.m_len) (by decide +kernel) (pa_cons (pv 1) pa_nil))) pe_int) pa_nil)) (by rfl))
    (pss_cons (ps_for PassesOwn.never rfl (pi_range2 (by rfl) (T.m_range) (pa_cons pe_int (pa_cons (pe_op o_add (pe_op o_mul pe_int (pe_callB (show CallR _ _ (rLenL K) from o_lenl) (by rfl) (T.m_len) (by decide +kernel) (pa_cons (pv 1) pa_nil))) pe_int) pa_nil))) (pg_name (i := 10) nd rfl (by first | exact Or.inl rfl | exact Or.inr rfl))
    (pss_cons (ps_set (i := 11) nd rfl (by first | exact Or.inl rfl | exact Or.inr rfl) pe_dnewK)
    (pss_cons (ps_for PassesOwn.never rfl (show PI _ _ _ (iList K _) from (pi_list (pv 7))) (show PG _ _ (gTup K 2 _) from (pg_tup (by rfl) (pgs_cons (pg_name (i := 6) nd rfl (by first | exact Or.inl rfl | exact Or.inr rfl)) (pgs_cons (pg_name (i := 12) nd rfl (by first | exact Or.inl rfl | exact Or.inr rfl)) pgs_nil))))
    (pss_one (ps_if (pt_cmpR (o_lt) (pe_callB (o_lens) (by rfl) (T.m_len) (by decide +kernel) (pa_cons (pv 6) pa_nil)) (pv 10) (nomark _))
    (pss_one (ps_lock (ps_for PassesOwn.never rfl (pi_keys (pe_ix (show IxR _ (rIxL K) from ix_list) (pv 8) (pe_op o_sub (pe_op o_sub (pv 10) (pe_callB (o_lens) (by rfl) (T.m_len) (by decide +kernel) (pa_cons (pv 6) pa_nil))) pe_int) (fun _ _ => rfl))) (pg_name (i := 13) nd rfl (by first | exact Or.inl rfl | exact Or.inr rfl))
    (pss_cons (ps_set (i := 14) nd rfl (by first | exact Or.inl rfl | exact Or.inr rfl) (pe_op o_adds (pe_op o_adds (pe_dget hu (pe_ix (show IxR _ (rIxL K) from ix_list) (pv 8) (pe_op o_sub (pe_op o_sub (pv 10) (pe_callB (o_lens) (by rfl) (T.m_len) (by decide +kernel) (pa_cons (pv 6) pa_nil))) pe_int) (fun _ _ => rfl)) (pv 13) (fun _ _ => rfl)) (pv 6)) pe_str))
    (pss_one (ps_dput hu (pv 11) (pe_op o_or (pv 13) (pv 12)) (pe_callB (o_min2S rfl) (by rfl) (T.m_min) (by decide +kernel) (pa_cons (pe_dget2 hu (pv 11) (pe_op o_or (pv 13) (pv 12)) (pv 14) ⟨rfl, rfl, rfl, rfl⟩) (pa_cons (pv 14) pa_nil))) rfl))))))
    pss_nil)))
    (pss_cons (ps_expr (pe_bm PySem.F.plainAttrs_list PySem.F.slot_list_append PySem.F.type_list_append mt_append (pv 8) (pa_cons (pv 11) pa_nil)))
    (pss_one (ps_if (pt_cmp (pc_din hu (pv 9) (pv 11)) rfl)
    (pss_one (ps_ret (pe_slice sl_str (pe_dget hu (pv 11) (pv 9) (fun _ _ => rfl)) po_none (po_some (pe_op o_sub (pv 10) pe_int)))))
    pss_nil))))))
    (pss_one (ps_ret pe_str)))))), ?_⟩
  obtain ⟨F, v, w, hour, ms, rfl, s, r, r2, hok, q⟩ := h
  have hl := hok.2
  have h16 : hour ≤ 1000 := hok.1.1.2
  have A := allowed_pos hok
  -- pieces, spots
  have hsp : Ev (tCB (rDictP K) (tCons (tLc (iEnum K (tCons (tVar 1) tNil)) (gTup K 2 (gCons (gName 2) (gCons (gName 3) gNil))) tYes (tTup (tCons (tVar 3) (tCons (tOp rShlI (tC (.int 1)) (tVar 2)) tNil))) [2, 3]) tNil)) (start N__law_shortest [v, w]) F H (Dct.mk (spotsOf ms)) := by
    refine (en_dictp (ds := spotsOf ms) (by rw [spots_keys]; exact mins_nd hok.1) (ev_map2 (ei_enumL (ev_var (a := ms) rfl r2)) ?_ (fun _ _ => rfl) fun n z hz F1 H1 x y g1 rx ry => ev_tup2 (ev_var (a := z.2) rfl ry) (ev_shl ?_ ev_i (ev_var (a := z.1) rfl rx)))).iceD
    · rw [numbered_len, sizeLine_eq]
      omega
    · obtain ⟨y', hy', rfl⟩ := numbered_at hz
      have := (List.getElem?_eq_some_iff.mp hy').1
      exact ⟨by show (0 : Int) ≤ n; omega, by show (n : Int) ≤ 1000000; omega, by decide⟩
  refine (ev_tup2 (ev_call1 (pre := fun hour : Int => 2 ≤ hour ∧ hour ≤ 1000) (f := fun hour => Dct.mk (wordsOf hour (pcs hour))) (a := hour) hok.1.1 (ev_var rfl r)) hsp).go s fun vt F1 H1 g1 rt => g_pair g1.sub rt fun vw vd rw1 rd1 => ?_
  obtain ⟨pw, kw, rfl, ew, hw⟩ := rw1
  obtain ⟨pd, kd, rfl, ed, hd⟩ := rd1
  have hw : Paired (DRel F1) kw (wordsOf hour (pcs hour)) := hw
  have hd : Paired (DRel F1) kd (spotsOf ms) := hd
  have getw : ∀ {F' H' : Hp} {τ : L2.St} {i j : Nat} {c : Int × Int}, c ∈ pcs hour → Gr F1 H1 F' H' → τ[i]? = some (some (.ref pw)) → τ[j]? = some (some (.str (wordOf c))) → Ev (tDGet (tVar i) (tVar j)) τ F' H' (toldOf hour c) := fun {F' H' τ i j c} hc g h1 h2 =>
    ev_dget (kvs := kw) (ds := wordsOf hour (pcs hour)) (k := wordOf c) (evv h1) (.inl (g.sub _ _ (g.fr _ _ ew))) (drel_mono g.fr hw) (told_at hc).1 (ev_var (a := wordOf c) h2 rfl)
  have hgood : Ev (tLc (iList K (tCB rSortDS (tCons (tVar 4) tNil))) (gName 6) (tTest (tOp (rEqD K) (tLc (iList K (tDGet (tVar 4) (tVar 6))) (gName 3) (tB (tDNotIn (tVar 3) (tVar 5))) (tVar 3) [3]) (tLst tNil))) (tTup (tCons (tVar 6) (tCons (tCB (rSum K) (tCons (tLc (iList K (tDGet (tVar 4) (tVar 6))) (gName 3) tYes (tDGet (tVar 5) (tVar 3)) [3]) tNil)) tNil))) [6])
      [some v, some w, none, none, some (.ref pw), some (.ref pd), none, none, none, none, none, none, none, none, none] F1 H1 (goodP hour ms) := by
    have e1 : goodP hour ms = ((allWords hour).filter fun w => decide ((((wordTold hour w).filter fun m => !(look (spotsOf ms) m).isSome).map fun m => m) = [])).map fun w => (w, ((wordTold hour w).map fun m => (look (spotsOf ms) m).getD 0).sum) := by
      unfold goodP useful
      rw [List.map_map]
      have e2 : (allWords hour).filter (fun w => usefulIn ms (wordTold hour w)) = (allWords hour).filter fun w => decide ((((wordTold hour w).filter fun m => !(look (spotsOf ms) m).isSome).map fun m => m) = []) := by
        refine List.filter_congr fun w hw => ?_
        rw [List.map_id']
        unfold usefulIn
        rw [Bool.eq_iff_iff, decide_eq_true_eq, List.filter_eq_nil_iff, List.all_eq_true]
        constructor
        · intro h m hm
          have := h m hm
          rw [List.contains_iff_mem] at this
          rw [spots_at, if_pos this]
          simp
        · intro h m hm
          have := h m hm
          rw [spots_at] at this
          rw [List.contains_iff_mem]
          by_cases z : m ∈ ms
          · exact z
          · rw [if_neg z] at this
            exact absurd rfl this
      rw [← e2]
      refine List.map_congr_left fun w hw => ?_
      have hu := (List.mem_filter.mp hw).2
      unfold usefulIn at hu
      rw [List.all_eq_true] at hu
      refine Prod.ext rfl ?_
      show bitsOf (posL ms (wordTold hour w)) = _
      unfold bitsOf posL
      rw [List.map_map]
      congr 1
      refine List.map_congr_left fun m hm => ?_
      have := hu m hm
      rw [List.contains_iff_mem] at this
      rw [spots_at, if_pos this]
      rfl
    rw [e1]
    refine ev_filter (ei_list (ev_sortDS (kvs := kw) (ks := (pcs hour).map wordOf) (evv rfl) (.inl (g1.sub _ _ ew)) (by rw [drel_word hw, words_keys]) fun ys h1 h2 => sortW_is h1 h2)) ?_ (fun _ => rfl) fun j z hz F2 H2 y g2 ry => ?_
    · show (allWords hour).length ≤ _
      unfold allWords
      rw [sortW_len, List.length_map, sizeLine_eq]
      have := len_pcs hour hok.1.1
      omega
    · obtain ⟨c, hc, rfl⟩ := mem_words.mp (List.mem_of_getElem? hz)
      have ry : y = V.str (wordOf c) := ry
      subst ry
      have wt := (told_at hc).2
      have tl := told_len hc h16
      refine ⟨et_test (ev_eqD (α := List Int) (by decide) (ev_filter (p := fun m => !(look (spotsOf ms) m).isSome) (f := fun m => m) (ei_list (Ev.is (getw hc g2 rfl rfl) wt.symm)) ?_ (fun _ => rfl) fun j z hz F3 H3 y g3 ry => ⟨et_B (ev_dnotin (kvs := kd) (ds := spotsOf ms) (k := z) (evv rfl) (.inl ((g2.trans g3).sub _ _ ((g2.trans g3).fr _ _ ed))) (drel_mono (g2.trans g3).fr hd) (ev_var rfl ry)), fun _ => ev_var rfl ry⟩) ev_lst0), fun hb => ev_tup2 (ev_var (a := wordOf c) rfl rfl) (ev_sum (ev_map (f := fun m => (look (spotsOf ms) m).getD 0) (ei_list (Ev.is (getw hc g2 rfl rfl) wt.symm)) ?_ (fun _ => rfl) fun j z hz F3 H3 y g3 ry => ev_dget (kvs := kd) (ds := spotsOf ms) (k := z) (evv rfl) (.inl ((g2.trans g3).sub _ _ ((g2.trans g3).fr _ _ ed))) (drel_mono (g2.trans g3).fr hd) ?_ (ev_var rfl ry)))⟩
      · rw [wt, sizeLine_eq]
        omega
      · rw [wt, sizeLine_eq]
        omega
      · have hb := of_decide_eq_true hb
        rw [List.map_id', List.filter_eq_nil_iff] at hb
        have := hb z (List.mem_of_getElem? hz)
        cases e : look (spotsOf ms) z with
        | none => rw [e] at this; exact absurd rfl this
        | some k => rfl
  refine st_asg g1.sub hgood fun vg F2 H2 g2 rg => ?_
  have g12 := g1.trans g2
  -- rows, whole
  dsimp only
  refine st_parR (st_consLst ?_)
  refine (en_disp1 (κ := Int) (α := Str) (k := 0) (a := Str.ofString "") ev_i ev_s).go g2.sub fun p0 o F3 H3 g3 np0 fp0 ep0 hd0 => ?_
  obtain ⟨us0, eo, hd0⟩ := hd0
  subst eo
  have hus := tK_of hd0
  subst hus
  refine ⟨(by show 1 ≤ sizeLine; rw [sizeLine_eq]; decide), fun ra nra => ?_⟩
  have np : ra ≠ p0 := fun e => by rw [e, ep0] at nra; cases nra
  have n0 : ∀ {x : Addr}, H3 x = none → H x = none := fun {x} hx => by
    cases e : H x with
    | none => rfl
    | some o => rw [(g12.trans g3).at e] at hx; cases hx
  have n02 : H p0 = none := by
    cases e : H p0 with
    | none => rfl
    | some o => rw [g12.at e] at np0; cases np0
  have fra : F3 ra = none := by
    cases e : F3 ra with
    | none => rfl
    | some o => rw [g3.sub _ _ e] at nra; cases nra
  have T0 : TS F H ra [p0] [[(0, S [])]] F3 (upd H3 ra (.lst [.ref p0])) := by
    refine ⟨(g12.trans g3).put (.inl (n0 nra)) fra, n0 nra, fra, upd_same, rfl, fun i a t h1 h2 => ?_⟩
    have hi : i = 0 := by
      have := (List.getElem?_eq_some_iff.mp h1).1
      simp at this
      exact this
    subst hi
    cases h1
    cases h2
    refine ⟨?_, n02, fp0⟩
    rw [upd_ne (fun e => np e.symm), ep0, nul_eq]
  generalize upd H3 ra (.lst [.ref p0]) = H4 at T0
  have r24 : rep F3 w ms := Rep.mono (g12.fr.trans g3.fr) r2
  refine st_cons1 ?_
  refine (ev_sub (ev_shl (i := 1) (j := (ms.length : Int)) ⟨by omega, by omega, by decide⟩ ev_i (ev_lenL (K := K) (ev_var (a := ms) (i := 1) rfl r24))) ev_i).go T0.gr.sub fun vwh F5 H5 g5 rwh => ?_
  have ewh : (1 : Int) * 2 ^ ((ms.length : Int)).toNat - 1 = ((2 ^ ms.length : Nat) - 1 : Int) := by
    rw [Int.toNat_natCast]
    push_cast
    omega
  have rwh : vwh = V.int (1 * 2 ^ ((ms.length : Int)).toNat - 1) := rwh
  rw [ewh] at rwh
  subst rwh
  have T5 := T0.grow g5
  generalize ewhole : ((2 ^ ms.length : Nat) - 1 : Int) = whole
  have cov : ∀ ws : List Pm, (∀ q ∈ ws, q ∈ useful hour ms) → (un (ws.map (encP (posL ms))) = whole ↔ ∀ m ∈ ms, ∃ q ∈ ws, m ∈ q.2) := fun ws h => by rw [← ewhole]; exact cover_pos hok.1 ws h
  refine ⟨_, _, rfl, ?_⟩
  dsimp only
  have r25 : rep F5 w ms := Rep.mono g5.fr r24
  refine st_for (F := F5) (H := H5) (xs := ups 1 (4 * (ms.length : Int) + 2 - 1).toNat) g5.sub (ei_range2 (by omega) (by omega) ev_i (ev_add (ev_mul (CMul.ok (.inl ⟨by decide, by decide⟩)) ev_i (ev_lenL (ev_var (a := ms) rfl r25))) ev_i)) (fun i σ' F' H' => ∃ (as : List Addr) (tabs : List Tb) (y6 y10 y11 y12 y13 y14 : Option V), σ' = [some v, some w, none, none, some (.ref pw), some (.ref pd), y6, some vg, some (.ref ra), some (.int whole), y10, y11, y12, y13, y14] ∧ Same F5 F' ∧ TS F H ra as tabs F' H' ∧ tabs.length = i + 1 ∧ (∀ (s : Nat) t, tabs[s]? = some t → Tab (goodP hour ms) (s : Int) t) ∧
    ∀ ws, Of (goodP hour ms) ws → un ws = whole → 1 ≤ sz ws → (i : Int) < sz ws) (fun F6 H6 g6 => ?_) (fun i size hsize σ1 F6 H6 s6 ⟨as, tabs, y6, y10, y11, y12, y13, y14, eσ, s56, T, tl, tt, nocov⟩ xv F7 H7 g7 rx => ?_) (fun σ1 F6 H6 s6 ⟨as, tabs, y6, y10, y11, y12, y13, y14, eσ, s56, T, tl, tt, nocov⟩ => ?_)
  · refine ⟨[p0], [[(0, S [])]], none, none, none, none, none, none, rfl, g6.fr, T5.grow g6, rfl, fun s t h => ?_, fun ws _ _ h => by omega⟩
    have hs : s = 0 := by
      have := (List.getElem?_eq_some_iff.mp h).1
      simp at this
      exact this
    subst hs
    cases h
    exact tab_zero _
  · subst eσ
    obtain ⟨hi, es⟩ := ups_at hsize
    have es : size = (i : Int) + 1 := by omega
    have sb : 1 ≤ size ∧ size ≤ 65 := by omega
    have rx : xv = V.int size := rx
    subst rx
    have T7 := T.grow g7
    refine st_asgN g7.sub (en_dict0 (κ := Int) (α := Str)) fun ha o F8 H8 g8 nh fh eh hh0 => ?_
    obtain ⟨us, eo, hh0⟩ := hh0
    cases hh0
    subst eo
    have T8 := T7.grow g8
    have nha : H ha = none := by
      cases e : H ha with
      | none => rfl
      | some o => rw [T7.gr.at e] at nh; cases nh
    have S8 : HS F H as ha [] F8 H8 := ⟨eh, nha, fh, fun a ha' e => by
      obtain ⟨j, hj⟩ := List.mem_iff_getElem?.mp ha'
      have lj := (List.getElem?_eq_some_iff.mp hj).1
      obtain ⟨t, ht⟩ : ∃ t, tabs[j]? = some t := ⟨_, List.getElem?_eq_getElem (by rw [← T7.len]; exact lj)⟩
      have := (T7.ent j a t hj ht).1
      rw [e, nh] at this
      cases this⟩
    have rg8 : ∀ {F' : Hp}, Same F8 F' → rep F' vg (goodP hour ms) := fun {F'} h => Rep.mono (g3.fr.trans (g5.fr.trans (s56.trans (g7.fr.trans (g8.fr.trans h))))) rg
    refine st_for (F := F8) (H := H8) (xs := goodP hour ms) g8.sub (ei_list (ev_var (a := goodP hour ms) rfl (rg8 (Same.refl _)))) (fun j σ' F' H' => ∃ (hd : Tb) (y6 y12 y13 y14 : Option V), σ' = [some v, some w, none, none, some (.ref pw), some (.ref pd), y6, some vg, some (.ref ra), some (.int whole), some (.int size), some (.ref ha), y12, y13, y14] ∧ Same F8 F' ∧ TS F H ra as tabs F' H' ∧ HS F H as ha hd F' H' ∧ TabS (goodP hour ms) size hd ∧
      ∀ p ∈ (goodP hour ms).take j, ∀ ws, Of (goodP hour ms) ws → sz ws + psz p = size → LeT hd (un (ws ++ [p])) (tx (ws ++ [p]))) (fun F9 H9 g9 => ?_) (fun j pc hpc σ2 F9 H9 s9 ⟨hd, z6, z12, z13, z14, eσ, s89, T9, S9, B9, D9⟩ xv F10 H10 g10 rx => ?_) (fun σ2 F9 H9 s9 ⟨hd, z6, z12, z13, z14, eσ, s89, T9, S9, B9, D9⟩ => ?_)
    · exact ⟨[], _, _, _, _, rfl, g9.fr, T8.grow g9, S8.grow g9, ⟨by simp, fun k x e => by cases e⟩, fun p h => absurd h (by simp)⟩
    · subst eσ
      have hpm := List.mem_of_getElem? hpc
      have hwl : pc.1.length ≤ 13 := by
        obtain ⟨q0, hq0, rfl⟩ := List.mem_map.mp hpm
        exact useful_word hok.1 hq0
      refine g_pair g10.sub rx fun vw vt rw' rt => ?_
      have rw' : vw = V.str pc.1 := rw'
      have rt : vt = V.int pc.2 := rt
      subst rw' rt
      have T10 := T9.grow g10
      have S10 := S9.grow g10
      have pz : psz pc = (pc.1.length : Int) + 1 := rfl
      refine st_if (b := decide ((pc.1.length : Int) < size)) g10.sub (et_test (ev_lt (ev_lenS (x := pc.1) (by rw [sizeLine_eq]; omega) (ev_var rfl rfl)) (ev_var (a := size) rfl rfl))) (fun hb F11 H11 g11 => ?_) fun hb F11 H11 g11 => ?_
      · have hb := of_decide_eq_true hb
        have T11 := T10.grow g11
        have S11 := S10.grow g11
        obtain ⟨n, hn⟩ : ∃ n : Nat, (n : Int) = size - pc.1.length - 1 := ⟨(size - pc.1.length - 1).toNat, by omega⟩
        have nl : n < tabs.length := by omega
        obtain ⟨t, ht⟩ : ∃ t, tabs[n]? = some t := ⟨_, List.getElem?_eq_getElem nl⟩
        obtain ⟨d, hdd⟩ : ∃ d, as[n]? = some d := ⟨_, List.getElem?_eq_getElem (by rw [T11.len]; exact nl)⟩
        obtain ⟨dH, d0, dF⟩ := T11.ent n d t hdd ht
        have Tt := tt n t ht
        have hs0 : (n : Int) + psz pc = size := by omega
        have dra : d ≠ ra := fun e => by rw [e, T11.hr] at dH; cases dH
        have dha : d ≠ ha := S11.ne d (List.mem_of_getElem? hdd)
        refine ⟨d, _, dH, trivial, fun od => ?_⟩
        have sl : Same (upd F11 d (.frz od (.dK (tK t)))) (upd H11 d (.frz od (.dK (tK t)))) := fun a x e => by
          by_cases z : a = d
          · rw [z, upd_same] at e ⊢
            exact e
          · rw [upd_ne z] at e ⊢
            exact g11.sub a x e
        have ixn : ∀ {τ : L2.St} {F' H' : Hp}, H' ra = some (.lst (as.map V.ref)) → τ[8]? = some (some (.ref ra)) → τ[10]? = some (some (.int size)) → τ[6]? = some (some (.str pc.1)) →
            EvV (tOp (rIxL K) (tVar 8) (tOp rSubI (tOp rSubI (tVar 10) (tCB rLenS' (tCons (tVar 6) tNil))) (tC (.int 1)))) τ F' H' (.ref d) := fun {τ F' H'} e h8 h10 h6 =>
          evv_ix (n := n) h8 e (by rw [List.getElem?_map, hdd]; rfl) (Ev.is (ev_sub (ev_sub (ev_var (a := size) h10 rfl) (ev_lenS (x := pc.1) (by rw [sizeLine_eq]; omega) (ev_var h6 rfl))) ev_i) hn.symm)
        have hkl : t.length ≤ 100000 := Tt.toTabS.len A
        refine st_for (F := upd F11 d (.frz od (.dK (tK t)))) (xs := t.map (·.1)) sl (ei_keys (o := od) (kvs := tK t) (ds := t) (ixn (by rw [upd_ne (fun e => dra e.symm)]; exact T11.hr) rfl rfl rfl) upd_same (tK_rel _ t)) (fun i2 σ' F' H' => ∃ (hd2 : Tb) (y13 y14 : Option V), σ' = [some v, some w, none, none, some (.ref pw), some (.ref pd), some (.str pc.1), some vg, some (.ref ra), some (.int whole), some (.int size), some (.ref ha), some (.int pc.2), y13, y14] ∧ Same F11 (less F' d) ∧ F' d = some (.frz od (.dK (tK t))) ∧
          TS F H ra as tabs (less F' d) (upd H' d (.dK (tK t))) ∧ HS F H as ha hd2 (less F' d) (upd H' d (.dK (tK t))) ∧ TabS (goodP hour ms) size hd2 ∧ (∀ k l, LeT hd k l → LeT hd2 k l) ∧ ∀ k ∈ (t.map (·.1)).take i2, ∀ y, look t k = some y → LeT hd2 (Builtin.bitOr k pc.2) (addW y pc).cps.toList) (fun F12 H12 g12' => ?_) (fun i2 k hk σ3 F12 H12 s12 ⟨hd2, z13, z14, eσ, sl12, f12, T12, S12, B12, M12, D12⟩ xv F13 H13 g13 rx => ?_) (fun σ3 F12 H12 s12 ⟨hd2, z13, z14, eσ, sl12, f12, T12, S12, B12, M12, D12⟩ => ?_)
        · have gl := gr_less (p := d) (u := .dK (tK t)) g12'
          rw [less_upd dF, upd_back dH] at gl
          exact ⟨hd, _, _, rfl, gl.fr, g12'.fr _ _ upd_same, T11.grow gl, S11.grow gl, B9, fun _ _ h => h, fun k h => absurd h (by simp)⟩
        · subst eσ
          have rx : xv = V.int k := rx
          subst rx
          have gl13 := gr_less (p := d) (u := .dK (tK t)) g13
          have T13 := T12.grow gl13
          have S13 := S12.grow gl13
          have f13 := g13.fr _ _ f12
          have h13 := g13.sub _ _ f13
          have r13 : H13 ra = some (.lst (as.map V.ref)) := by
            have := T13.hr
            rwa [upd_ne (fun e => dra e.symm)] at this
          obtain ⟨y, hy⟩ : ∃ y, look t k = some y := by
            have := look_some_mem.mpr (List.mem_of_getElem? hk)
            cases e : look t k with
            | none => rw [e] at this; cases this
            | some y => exact ⟨y, rfl⟩
          have yl : y.length ≤ 100 := by
            obtain ⟨ws, _, _, t1, z1⟩ := Tt.snd k y hy
            have : (((tx ws).length : Nat) : Int) = n := z1
            rw [t1] at this
            have e : y.cps.toList.length = y.length := Array.length_toList
            omega
          have cand : y ++ pc.1 ++ Str.ofString " " = addW y pc := by
            refine str_S ?_
            have e1 := TL.tl_append (y ++ pc.1) (Str.ofString " ")
            have e2 := TL.tl_append y pc.1
            unfold TL.tl at e1 e2
            rw [e1, e2, sp_eq, List.append_assoc]
          have spl : (Str.ofString " ").length = 1 := by decide +kernel
          refine st_asg g13.sub (Ev.is (ev_adds ?_ (ev_adds ?_ (ev_dget (kvs := tK t) (ds := t) (k := k) (a := y) (ixn r13 rfl rfl rfl) (.inr ⟨od, h13⟩) (tK_rel _ t) hy (ev_var rfl rfl)) (ev_var (a := pc.1) rfl rfl)) ev_s) cand) fun vtx F14 H14 g14 rtx => ?_
          · rw [len_app, sizeLine_eq]
            omega
          · rw [sizeLine_eq]
            omega
          · have rtx : vtx = V.str (addW y pc) := rtx
            subst rtx
            have gl14 := gr_less (p := d) (u := .dK (tK t)) g14
            have T14 := T13.grow gl14
            have S14 := S13.grow gl14
            have hh14 : H14 ha = some (.dK (tK hd2)) := by
              have := S14.hh
              rwa [upd_ne (fun e => dha e.symm)] at this
            have f14 := g14.fr _ _ f13
            have hb2 := B12.len A
            refine st_dput (ds := hd2) (k := Builtin.bitOr k pc.2) (a := minT hd2 (Builtin.bitOr k pc.2) (addW y pc)) g14.sub (evv rfl) hh14 (tK_rel _ _) (by rw [sizeLine_eq]; omega) (ev_or (ev_var (a := k) rfl rfl) (ev_var (a := pc.2) rfl rfl)) (ev_min2S (x := (look hd2 (Builtin.bitOr k pc.2)).getD (addW y pc)) (y := addW y pc) (ev_dget2 (ds := hd2) (k := Builtin.bitOr k pc.2) (evv rfl) (.inl hh14) (tK_rel _ _) (ev_or (ev_var (a := k) rfl rfl) (ev_var (a := pc.2) rfl rfl)) (ev_var (a := addW y pc) rfl rfl)) (ev_var (a := addW y pc) rfl rfl)) fun kvs' F15 H15 g15 e15 hp15 => ?_
            have gl15 := gr_less (p := d) (u := .dK (tK t)) g15
            have T15 := T14.grow gl15
            have S15 := S14.grow gl15
            obtain ⟨B15, L15, M15⟩ := B12.put Tt.toTabS hpm hy hs0
            have f15 := g15.fr _ _ f14
            have fha : F15 ha = none := by
              have := S15.fh
              rwa [less_ne (fun e => dha e.symm)] at this
            refine ⟨F15, g13.fr.trans (g14.fr.trans g15.fr), same_put g15.sub fha, putD hd2 (Builtin.bitOr k pc.2) (minT hd2 (Builtin.bitOr k pc.2) (addW y pc)), _, _, rfl, sl12.trans (gl13.fr.trans (gl14.fr.trans gl15.fr)), f15, ?_, ?_, B15, fun k' l h => M15 k' l (M12 k' l h), fun k' hk' y' hy' => ?_⟩
            · rw [upd_swap (fun e => dha e.symm)]
              exact T15.puth S15
            · rw [upd_swap (fun e => dha e.symm)]
              exact S15.put hp15
            · rw [List.take_add_one, hk] at hk'
              rcases List.mem_append.mp hk' with h | h
              · exact M15 _ _ (D12 k' h y' hy')
              · have : k' = k := by simpa using h
                subst this
                rw [hy] at hy'
                cases hy'
                exact L15
        · subst eσ
          rw [List.take_length] at D12
          have h12 := s12 _ _ f12
          refine ⟨h12, less F12 d, ?_, T12.gr.sub, hd2, _, _, _, _, rfl, s89.trans (g10.fr.trans (g11.fr.trans sl12)), T12, S12, B12, fun p hp ws ho hz => ?_⟩
          · exact g10.fr.trans (g11.fr.trans sl12)
          · rw [List.take_add_one, hpc] at hp
            rcases List.mem_append.mp hp with h | h
            · exact M12 _ _ (D9 p h ws ho hz)
            · have : p = pc := by simpa using h
              subst this
              refine piece_adds Tt (fun k y hy => D12 k (look_some_mem.mp (by rw [hy]; rfl)) y hy) ws ho (by omega)
      · have hb := of_decide_eq_false hb
        have gg := g10.trans g11
        refine ⟨F11, gg.fr, gg.sub, hd, _, _, _, _, rfl, s89.trans gg.fr, T9.grow gg, S9.grow gg, B9, fun p hp ws ho hz => ?_⟩
        rw [List.take_add_one, hpc] at hp
        rcases List.mem_append.mp hp with h | h
        · exact D9 p h ws ho hz
        · have : p = pc := by simpa using h
          subst this
          have := sz_nn ws
          omega
    · subst eσ
      rw [List.take_length] at D9
      have T1 : Tab (goodP hour ms) size hd := tab_all B9 (by omega) fun ws p ho hz => by
        rw [sz_snoc] at hz
        exact D9 p (ho p (List.mem_append_right _ (by simp))) ws (fun x hx => ho x (List.mem_append_left _ hx)) hz
      have asl : as.length ≤ 100 := by rw [T9.len]; omega
      dsimp only
      refine st_seqR (st_drop0 ?_)
      refine ⟨_, rfl, .inl ⟨rfl, _, .inl (.inl T9.hr)⟩, ⟨_, rfl, ra, _, .ref ha, rfl, rfl, T9.hr, by rw [List.length_map, sizeLine_eq]; omega, ?_⟩⟩
      have TA := T9.app S9
      have hhA : upd H9 ra (.lst (as.map V.ref ++ [.ref ha])) ha = some (.dK (tK hd)) := by
        rw [upd_ne (fun e => by
          have := T9.hr
          rw [← e, S9.hh] at this
          cases this)]
        exact S9.hh
      have sA : Same F9 (upd H9 ra (.lst (as.map V.ref ++ [.ref ha]))) := TA.gr.sub
      have cnt : tabs.length + 1 = i + 1 + 1 := by omega
      have allt : ∀ (s : Nat) t, (tabs ++ [hd])[s]? = some t → Tab (goodP hour ms) (s : Int) t := fun s t h => by
        by_cases hs : s < tabs.length
        · rw [List.getElem?_append_left hs] at h
          exact tt s t h
        · have es' : s = tabs.length := by
            have := (List.getElem?_eq_some_iff.mp h).1
            simp at this
            omega
          subst es'
          rw [List.getElem?_append_right (Nat.le_refl _), Nat.sub_self] at h
          cases h
          rw [tl, show ((i + 1 : Nat) : Int) = size by omega]
          exact T1
      refine st_if (b := (look hd whole).isSome) sA (et_B (ev_din (ds := hd) (k := whole) (evv rfl) (.inl hhA) (tK_rel _ _) (ev_var rfl rfl))) (fun hb F10 H10 g10 => ?_) fun hb F10 H10 g10 => ?_
      · obtain ⟨x, hx⟩ : ∃ x, look hd whole = some x := by
          cases e : look hd whole with
          | none => rw [e] at hb; cases hb
          | some x => exact ⟨x, rfl⟩
        obtain ⟨ws, ho, hu, ht, hz⟩ := B9.snd whole x hx
        have msne : ms ≠ [] := fun e => by
          have : goodP hour ms = [] := by
            unfold goodP
            rw [e, useful_nil]
            rfl
          have : ws = [] := by
            cases ws with
            | nil => rfl
            | cons p r =>
              have := ho p (List.mem_cons_self ..)
              rw [‹goodP hour ms = []›] at this
              exact absurd this (by simp)
          rw [this] at hz
          have : sz [] = 0 := rfl
          omega
        have best : IsBest (goodP hour ms) whole x.cps.toList := by
          refine ⟨ws, ho, hu, ht, fun ws' ho' hu' => ?_⟩
          have hzl : ((tx ws).length : Int) = size := hz
          rw [ht] at hzl
          have wne : 1 ≤ sz ws' := by
            have nn := sz_nn ws'
            by_cases z : sz ws' = 0
            · have e0 : ws' = [] := by
                rcases List.eq_nil_or_concat ws' with e | ⟨a, b, e⟩
                · exact e
                · rw [List.concat_eq_append] at e
                  subst e
                  rw [sz_snoc] at z
                  have := psz_pos b
                  have := sz_nn a
                  omega
              subst e0
              have h0 := (cov [] (fun _ h => absurd h (by simp))).mp hu'
              cases ms with
              | nil => exact absurd rfl msne
              | cons m r =>
                obtain ⟨q0, hq0, _⟩ := h0 m (List.mem_cons_self ..)
                exact absurd hq0 (by simp)
            · omega
          have lt := nocov ws' ho' hu' wne
          by_cases z : sz ws' = size
          · obtain ⟨x', e', l'⟩ := T1.all ws' ho' z
            rw [hu', hx] at e'
            cases e'
            refine .inr ⟨?_, l'⟩
            unfold sz at z
            omega
          · left
            unfold sz at z lt
            omega
        have xl : x.cps.toList.length = size.toNat := by
          have hzl : ((tx ws).length : Int) = size := hz
          rw [ht] at hzl
          omega
        refine st_ret (a := shortM hour ms) g10.sub (Ev.is (ev_slS (x := x) (lo := none) (hi := some (((size - 1).toNat : Nat) : Int)) ?_ (ev_dget (ds := hd) (k := whole) (evv rfl) (.inl (g10.at hhA)) (tK_rel _ _) hx (ev_var rfl rfl)) eo_none (eo_some (Ev.is (ev_sub (ev_var (a := size) rfl rfl) ev_i) (by omega)))) ?_) fun u F11 H11 g11 r11 => q u F11 H11 (TA.gr.trans (g10.trans g11)) r11
        · show x.cps.size ≤ _
          rw [← Array.length_toList, xl, sizeLine_eq]
          omega
        · unfold shortM
          rw [if_neg msne, bestM_is ((best_enc cov).mp best), cutS_S, cut_to, List.dropLast_eq_take, xl]
          congr 2
          omega
      · refine ⟨F10, g7.fr.trans (g8.fr.trans (s89.trans g10.fr)), g10.sub, as ++ [ha], tabs ++ [hd], _, _, _, _, _, _, rfl, s56.trans (g7.fr.trans (g8.fr.trans (s89.trans g10.fr))), TA.grow g10, by rw [List.length_append]; exact cnt, allt, fun ws ho hu hz => ?_⟩
        have lt := nocov ws ho hu hz
        by_cases z : sz ws = size
        · obtain ⟨x', e', l'⟩ := T1.all ws ho z
          rw [hu] at e'
          rw [e'] at hb
          cases hb
        · show ((i + 1 : Nat) : Int) < _
          omega
  · subst eσ
    have msn : ms = [] := by
      by_cases z : ms = []
      · exact z
      · exfalso
        have sc := single_cov hok.1
        have := nocov ((ms.map fun m => (numS m, [m])).map (encP (posL ms))) (fun p hp => by
          obtain ⟨q0, hq0, rfl⟩ := List.mem_map.mp hp
          exact List.mem_map.mpr ⟨q0, sc.1 q0 hq0, rfl⟩) ((cov _ sc.1).mpr sc.2)
        have le := single_len (ms := ms) fun m hm => by
          have := hok.1.2.2 m hm
          have := hok.1.1
          omega
        have e : sz ((ms.map fun m => (numS m, [m])).map (encP (posL ms))) = (((txM (ms.map fun m => (numS m, [m]))).length : Nat) : Int) := by
          unfold sz
          rw [tx_enc]
        rw [e, ups_len] at this
        have pos : 1 ≤ (txM (ms.map fun m => (numS m, [m]))).length := by
          cases ms with
          | nil => exact absurd rfl z
          | cons m r =>
            show 1 ≤ (((numS m).cps.toList ++ [32]) ++ txM (r.map fun m => (numS m, [m]))).length
            simp
            omega
        have := this (by omega)
        omega
    dsimp only
    refine st_ret (a := shortM hour ms) s6 (Ev.is ev_s ?_) fun u F7 H7 g7 r7 => q u F7 H7 (T.gr.trans g7) r7
    unfold shortM
    rw [if_pos msn, nul_eq]
end
end K90
set_option maxHeartbeats 4000000
namespace K90
open PySem PySem.Spec PyProof.Rows L2 SX Ly
open Rep
section
variable {P : Program} {w : World} {K : PySem.W.Frag} {mg : Str → Option Value} {base : Heap}
theorem ok__law_purse (T : Tx K mg) : Cal P w K mg base 1 "_law_purse" (SpPurse K) [] := by
  refine cal_of T.t__law_purse sc__law_purse (fun _ _ _ _ _ _ us hl => match us, hl with | [_, _], _ => rfl) SpPurse.len (fun cdv A outer s H vs Q E hr h => ?_)
  have nd := sc__law_purse.nd
  have hu := hu_of hr
  refine ⟨_, PSs.nox (pss_cons (ps_set (i := 2) nd rfl (by first | exact Or.inl rfl | exact Or.inr rfl) (pe_callB (show CallR _ _ (rSum K) from cr_sum rfl) (by rfl) (T.m_sum) (by decide +kernel) (pa_cons (pe_slice (show SlR _ (rSlL K) from sl_list) (pv 0) (po_some (pv 1)) (po_some (pe_op o_add (pv 1) pe_int))) pa_nil)))
    (pss_one (ps_ret (pe_lst (pa_cons (pe_op o_mod (pe_callTy (o_int) (by rfl) (T.m_int) (by decide +kernel) (pa_cons (pe_callB (o_max2 rfl) (by rfl) (T.m_max) (by decide +kernel) (pa_cons (pe_op o_sub (pv 2) (pe_op o_pow pe_int pe_int)) (pa_cons pe_int pa_nil))) pa_nil)) (pe_op o_pow (pe_op o_pow pe_int pe_int) pe_int)) (pa_cons (pe_op o_mod (pe_callTy (o_int) (by rfl) (T.m_int) (by decide +kernel) (pa_cons (pv 2) pa_nil)) pe_int) (pa_cons pe_int (pa_cons (pv 1) pa_nil)))))))), ?_⟩
  obtain ⟨F, a, ns, at_, rfl, s, hs, q⟩ := h
  refine st_asg s (ev_sum (ev_slSq (evv rfl) hs (eo_some (ev_var (a := at_) rfl rfl)) (eo_some (ev_add (ev_var (a := at_) rfl rfl) ev_i)))) fun vs F1 H1 g1 rs => ?_
  have rs : vs = V.int (cutL ns (some at_) (some (at_ + 1))).sum := rs
  subst rs
  refine st_ret (a := purseOf ns at_) g1.sub (ev_lst4 (ev_mod (by decide) (ev_int (ev_max2 (ev_sub (ev_var (a := (cutL ns (some at_) (some (at_ + 1))).sum) rfl rfl) (ev_pow (i := 10) (j := 18) (by decide +kernel) ev_i ev_i)) ev_i)) (ev_pow (j := 8) (by decide +kernel) (ev_pow (i := 10) (j := 60) (by decide +kernel) ev_i ev_i) ev_i)) (ev_mod (by decide) (ev_int (ev_var (a := (cutL ns (some at_) (some (at_ + 1))).sum) rfl rfl)) ev_i) ev_i (ev_var (a := at_) rfl rfl)) fun u F2 H2 g2 r2 => q u F2 H2 (g1.trans g2) r2
theorem ok__law_purses (T : Tx K mg) : Cal P w K mg base 2 "_law_purses" (SpPurses K) [] := by
  have c__law_purse := ok__law_purse (P := P) (w := w) (base := base) T
  refine cal_of T.t__law_purses sc__law_purses (fun _ _ _ _ _ _ us hl => match us, hl with | [_, _], _ => rfl) SpPurses.len (fun cdv A outer s H vs Q E hr h => ?_)
  have nd := sc__law_purses.nd
  have hu := hu_of hr
  refine ⟨_, PSs.nox (pss_one (ps_ret (pe_lc (own := [("at", 2)]) rfl nd (pi_range1 (by rfl) (T.m_range) (pa_cons (pe_callB (o_max2 rfl) (by rfl) (T.m_max) (by decide +kernel) (pa_cons pe_int (pa_cons (pe_callB (o_min2 rfl) (by rfl) (T.m_min) (by decide +kernel) (pa_cons (pv 1) (pa_cons (pe_callB (show CallR _ _ (rLenL K) from o_lenl) (by rfl) (T.m_len) (by decide +kernel) (pa_cons (pv 0) pa_nil)) pa_nil))) pa_nil))) pa_nil)) (blkOk_by (N := N__law_purses) (sc := (defScope s__law_purses)) (by decide +kernel)) (fun _ _ _ _ _ => (pg_name (i := 2) nd rfl (by first | exact Or.inl rfl | exact Or.inr rfl))) (fun _ _ _ _ _ => pts_nil) (fun _ _ _ _ _ => (pe_c c__law_purse hr (by decide) (by rfl) (pa_cons (pv 0) (pa_cons (pv 2) pa_nil))))))), ?_⟩
  obtain ⟨F, a, ns, few, rfl, s, hs, hf, q⟩ := h
  refine st_ret (a := pursesOf ns few) s (ev_map (f := purseOf ns) (ei_range1 ?_ (ev_max2 ev_i (ev_min2 (ev_var (a := few) rfl rfl) (ev_lenSq (evv rfl) hs)))) ?_ (fun _ => rfl) fun j z e F1 H1 y g1 ry => ?_) q
  · constructor <;> (split <;> split <;> omega)
  · rw [ups_len, sizeLine_eq]
    split <;> split <;> omega
  · have ry : y = V.int z := ry
    subst ry
    exact fun F2 H2 g2 Q2 k2 => ⟨_, rfl, _, rfl, F2, a, ns, z, rfl, g2.sub, fun F' H' g => hs F' H' ((g1.trans g2).trans g), fun r F' H' g rr => k2 r F' H' g rr⟩
theorem ok__law_mixed (T : Tx K mg) : Cal P w K mg base 1 "_law_mixed" (Sp3 (fun seed spin at_ : Int => (0 ≤ seed ∧ seed < 2 ^ 31) ∧ (0 ≤ spin ∧ spin < 2 ^ 60) ∧ (0 ≤ at_ ∧ at_ ≤ 100000)) mixOf) [] := by
  refine cal_of T.t__law_mixed sc__law_mixed (fun _ _ _ _ _ _ us hl => match us, hl with | [_, _, _], _ => rfl) Sp3.len (fun cdv A outer s H vs Q E hr h => ?_)
  have nd := sc__law_mixed.nd
  have hu := hu_of hr
  refine ⟨_, PSs.nox (pss_cons (ps_set (i := 3) nd rfl (by first | exact Or.inl rfl | exact Or.inr rfl) (pe_op o_add (pe_op o_mul (pv 0) pe_int) (pe_op o_mul (pe_op o_mul pe_int (pv 1)) (pv 1))))
    (pss_cons (ps_set (i := 3) nd rfl (by first | exact Or.inl rfl | exact Or.inr rfl) (pe_op o_mod (pe_callTy (o_int) (by rfl) (T.m_int) (by decide +kernel) (pa_cons (pe_op o_add (pe_op o_add (pv 3) (pe_op o_mul pe_int (pv 2))) (pv 1)) pa_nil)) pe_int))
    (pss_cons (ps_set (i := 3) nd rfl (by first | exact Or.inl rfl | exact Or.inr rfl) (pe_op o_mod (pe_callTy (o_int) (by rfl) (T.m_int) (by decide +kernel) (pa_cons (pe_op o_add (pe_op o_mul (pv 3) (pv 3)) pe_int) pa_nil)) pe_int))
    (pss_one (ps_ret (pe_op o_mod (pe_callTy (o_int) (by rfl) (T.m_int) (by decide +kernel) (pa_cons (pe_op o_mul (pv 3) pe_int) pa_nil)) pe_int)))))), ?_⟩
  obtain ⟨F, v, w, z, seed, spin, at_, rfl, s, r1, r2, r3, ⟨h1, h2, h3⟩, q⟩ := h
  have r1 : v = V.int seed := r1
  have r2 : w = V.int spin := r2
  have r3 : z = V.int at_ := r3
  subst r1 r2 r3
  refine st_asg s (ev_add (ev_mul (mul_r (by decide)) (ev_var (a := seed) rfl rfl) ev_i) (ev_mul (mul_r ⟨by omega, by omega⟩) (ev_mul (mul_l (by decide)) ev_i (ev_var (a := spin) rfl rfl)) (ev_var (a := spin) rfl rfl))) fun v1 F1 H1 g1 e1 => ?_
  refine st_asg g1.sub (ev_mod (by decide) (ev_int (ev_add (ev_add (ev_var rfl e1) (ev_mul (mul_l (by decide)) ev_i (ev_var (a := at_) rfl rfl))) (ev_var (a := spin) rfl rfl))) ev_i) fun v2 F2 H2 g2 e2 => ?_
  generalize em : (((seed * 69069 + 104729 * spin * spin) + 7919 * at_) + spin) % 2147483647 = m at e2
  have mb : 0 ≤ m ∧ m < 2147483647 := by
    rw [← em]
    exact ⟨Int.emod_nonneg _ (by decide), Int.emod_lt_of_pos _ (by decide)⟩
  refine st_asg g2.sub (ev_mod (by decide) (ev_int (ev_add (ev_mul (mul_l ⟨by omega, by omega⟩) (ev_var rfl e2) (ev_var rfl e2)) ev_i)) ev_i) fun v3 F3 H3 g3 e3 => ?_
  refine st_ret (a := mixOf seed spin at_) g3.sub (Ev.is (ev_mod (by decide) (ev_int (ev_mul (mul_r (by decide)) (ev_var rfl e3) ev_i)) ev_i) ?_) fun u F4 H4 g4 r4 => q u F4 H4 (g1.trans (g2.trans (g3.trans g4))) r4
  unfold mixOf
  rw [em]
theorem ok__law_draw (T : Tx K mg) : Cal P w K mg base 2 "_law_draw" SpDraw [] := by
  have c__law_mixed := ok__law_mixed (P := P) (w := w) (base := base) T
  refine cal_of T.t__law_draw sc__law_draw (fun _ _ _ _ _ _ us hl => match us, hl with | [_, _], _ => rfl) SpDraw.len (fun cdv A outer s H vs Q E hr h => ?_)
  have nd := sc__law_draw.nd
  have hu := hu_of hr
  refine ⟨_, PSs.nox (pss_cons (ps_if (pt_cmpR (o_gt) (pe_ix (show IxR _ (rIxL K) from ix_list) (pv 0) pe_int (fun _ _ => rfl)) pe_int (nomark _))
    (pss_cons (ps_set (i := 2) nd rfl (by first | exact Or.inl rfl | exact Or.inr rfl) (pe_op o_mod (pe_callTy (o_int) (by rfl) (T.m_int) (by decide +kernel) (pa_cons (pe_ix (show IxR _ (rIxL K) from ix_list) (pv 0) pe_int (fun _ _ => rfl)) pa_nil)) (pv 1)))
    (pss_cons (ps_asg (pe_op o_div (pe_ix (show IxR _ (rIxL K) from ix_list) (pv 0) pe_int (fun _ _ => rfl)) (pv 1)) (pg_sub (pv 0) pe_int set_list))
    (pss_one (ps_ret (pv 2)))))
    pss_nil)
    (pss_cons (ps_set (i := 3) nd rfl (by first | exact Or.inl rfl | exact Or.inr rfl) pe_int)
    (pss_cons (ps_for PassesOwn.never rfl (pi_range1 (by rfl) (T.m_range) (pa_cons (pe_op o_add pe_int (pe_op o_div (pe_bits (pv 1)) pe_int)) pa_nil)) (pg_name (i := 4) nd rfl (by first | exact Or.inl rfl | exact Or.inr rfl))
    (pss_cons (ps_asg (pe_op o_add (pe_ix (show IxR _ (rIxL K) from ix_list) (pv 0) pe_int (fun _ _ => rfl)) pe_int) (pg_sub (pv 0) pe_int set_list))
    (pss_one (ps_set (i := 3) nd rfl (by first | exact Or.inl rfl | exact Or.inr rfl) (pe_op o_add (pe_op o_mul (pv 3) pe_int) (pe_c c__law_mixed hr (by decide) (by rfl) (pa_cons (pe_ix (show IxR _ (rIxL K) from ix_list) (pv 0) pe_int (fun _ _ => rfl)) (pa_cons (pe_ix (show IxR _ (rIxL K) from ix_list) (pv 0) pe_int (fun _ _ => rfl)) (pa_cons (pe_ix (show IxR _ (rIxL K) from ix_list) (pv 0) pe_int (fun _ _ => rfl)) pa_nil)))))))))
    (pss_one (ps_ret (pe_op o_mod (pe_callTy (o_int) (by rfl) (T.m_int) (by decide +kernel) (pa_cons (pv 3) pa_nil)) (pv 1))))))), ?_⟩
  obtain ⟨F, a, many, N, rfl, s, ⟨x0, x1, x2, x3, e, f, b⟩, nm, hm, q⟩ := h
  have ix : ∀ {F' H' : Hp} {τ : L2.St} {j : Nat} {x : Int} {xs : List V}, H' a = some (.lst xs) → τ[0]? = some (some (.ref a)) → xs[j]? = some (.int x) → Ev (tOp (rIxL K) (tVar 0) (tC (.int (j : Int)))) τ F' H' x := fun {F' H' τ j x xs} h1 h2 h3 => ev_ixLive h2 h1 h3
  refine st_if (b := decide (0 < x0)) s (et_test (ev_gt (ix (j := 0) e rfl rfl) ev_i)) (fun hb F1 H1 g1 => ?_) fun hb F1 H1 g1 => ?_
  · have hb := of_decide_eq_true hb
    refine st_asg g1.sub (ev_mod (by omega) (ev_int (ix (j := 0) (g1.at e) rfl rfl)) (ev_var (a := many) rfl rfl)) fun vd F2 H2 g2 rd => ?_
    have rd : vd = V.int (x0 % many) := rd
    subst rd
    have e2 := (g1.trans g2).at e
    refine st_setIx (i := 0) (n := 0) (x := x0 / many) rfl g2.sub e2 (ev_div ⟨by omega, ?_⟩ (ix (j := 0) e2 rfl rfl) (ev_var (a := many) rfl rfl)) (by simp) fun F3 H3 g3 e3 => ?_
    · refine Nat.lt_of_lt_of_le (PySem.Flt.log2_lt_of (k := 30) (by decide) (by omega)) (by decide)
    · have g13 := g1.trans (g2.trans g3)
      have f3 := g13.live e f
      refine ⟨_, rfl, q (x0 % many) F3 _ (g13.wide.put (.inr rfl) f3) ⟨x0 / many, x1, x2, x3, upd_same, f3, ?_⟩ (Int.emod_nonneg _ (by omega)) (Int.emod_lt_of_pos _ (by omega))⟩
      exact ⟨Int.ediv_nonneg b.h0 (by omega), b.h1, ⟨b.h2.1, by have := b.h2.2; omega⟩, b.h3⟩
  · unfold tNext
    dsimp only
    refine st_asg g1.sub ev_i fun vf F2 H2 g2 rf => ?_
    have rf : vf = V.int 0 := rf
    subst rf
    have g12 := g1.trans g2
    have bits : Builtin.Int.intBits many ≤ 21 := intBits_le (by omega)
    have one : (1 + ((Builtin.Int.intBits many : Nat) : Int) / 28) = 1 := by omega
    refine st_for (F := F2) (H := H2) (xs := ups 0 (1 : Int).toNat) g2.sub (ei_range1 (i := 1) (by decide) (Ev.is (ev_add ev_i (ev_div ⟨by decide, by decide +kernel⟩ (ev_bits (ev_var (a := many) rfl rfl)) ev_i)) one)) (fun i σ' F' H' => ∃ (y2 y3 y4 : Option V), σ' = [some (.ref a), some (.int many), y2, y3, y4] ∧ Ga a F H F' H' ∧ ((i = 0 ∧ y3 = some (.int 0) ∧ H' a = some (.lst [.int x0, .int x1, .int x2, .int x3])) ∨ (i = 1 ∧ (∃ k : Int, y3 = some (.int k)) ∧ H' a = some (.lst [.int x0, .int x1, .int (x2 + 1), .int x3])))) (fun F3 H3 g3 => ?_) (fun i z hz σ1 F3 H3 s3 ⟨y2, y3, y4, eσ, gr, st⟩ xv F4 H4 g4 rx => ?_) (fun σ1 F3 H3 s3 ⟨y2, y3, y4, eσ, gr, st⟩ => ?_)
    · exact ⟨_, _, _, rfl, (g12.trans g3).wide, .inl ⟨rfl, rfl, (g12.trans g3).at e⟩⟩
    · have hi : i = 0 := by
        have := (ups_at hz).1
        have e1 : (1 : Int).toNat = 1 := rfl
        omega
      subst hi
      rcases st with ⟨_, ey, e3⟩ | ⟨z1, _⟩
      · subst ey eσ
        have f3 : F3 a = none := by rw [gr.new a _ e]; exact f
        have e4 := g4.at e3
        refine st_setIx (i := 0) (n := 2) (x := x2 + 1) rfl g4.sub e4 (ev_add (ix (j := 2) e4 rfl rfl) ev_i) (by simp) fun F5 H5 g5 e5 => ?_
        have g45 := g4.trans g5
        have f5 := g45.live e3 f3
        have s5 := same_put (o := .lst [.int x0, .int x1, .int (x2 + 1), .int x3]) g5.sub f5
        have e6 : upd H5 a (.lst [.int x0, .int x1, .int (x2 + 1), .int x3]) a = some (.lst [.int x0, .int x1, .int (x2 + 1), .int x3]) := upd_same
        have bb := b.h2
        have cc := b.h1
        have dd := b.h3
        have mm : most = 2 ^ 40 := rfl
        refine st_asg s5 (ev_add (ev_mul (mul_l (by decide)) (ev_var (a := (0 : Int)) rfl rfl) ev_i) (ev_call3 (pre := fun seed spin at_ : Int => (0 ≤ seed ∧ seed < 2 ^ 31) ∧ (0 ≤ spin ∧ spin < 2 ^ 60) ∧ (0 ≤ at_ ∧ at_ ≤ 100000)) (f := mixOf) (a := x1) (b := x2 + 1) (c := x3) ⟨cc, ⟨by omega, by omega⟩, dd⟩ (ix (j := 1) e6 rfl rfl) (ix (j := 2) e6 rfl rfl) (ix (j := 3) e6 rfl rfl))) fun vk F6 H6 g6 rk => ?_
        have gb : Ga a F H F5 (upd H5 a (.lst [.int x0, .int x1, .int (x2 + 1), .int x3])) := (gr.trans g45.wide).put (.inr rfl) f5
        exact ⟨F6, g45.fr.trans g6.fr, g6.sub, _, _, _, rfl, gb.trans g6.wide, .inr ⟨rfl, ⟨_, congrArg some rk⟩, g6.at e6⟩⟩
      · cases z1
    · subst eσ
      rcases st with ⟨z1, _⟩ | ⟨_, ⟨k, ey⟩, e3⟩
      · rw [ups_len] at z1
        exact absurd z1 (by decide)
      · subst ey
        have f3 : F3 a = none := by rw [gr.new a _ e]; exact f
        refine st_ret (a := k % many) s3 (ev_mod (by omega) (ev_int (ev_var (a := k) rfl rfl)) (ev_var (a := many) rfl rfl)) fun u F4 H4 g4 r4 => ?_
        have r4 : u = V.int (k % many) := r4
        subst r4
        refine q (k % many) F4 H4 (gr.trans g4.wide) ⟨x0, x1, x2 + 1, x3, g4.at e3, g4.live e3 f3, ⟨b.h0, b.h1, ⟨by have := b.h2.1; omega, by have := b.h2.2; omega⟩, b.h3⟩⟩ (Int.emod_nonneg _ (by omega)) (Int.emod_lt_of_pos _ (by omega))
theorem ok__law_one_of (T : Tx K mg) : Cal P w K mg base 3 "_law_one_of" SpOne [] := by
  have c__law_draw := ok__law_draw (P := P) (w := w) (base := base) T
  refine cal_of T.t__law_one_of sc__law_one_of (fun _ _ _ _ _ _ us hl => match us, hl with | [_, _], _ => rfl) SpOne.len (fun cdv A outer s H vs Q E hr h => ?_)
  have nd := sc__law_one_of.nd
  have hu := hu_of hr
  refine ⟨_, PSs.nox (pss_one (ps_ret (pe_ix (show IxR _ (rIxL K) from ix_list) (pv 1) (pe_c c__law_draw hr (by decide) (by rfl) (pa_cons (pv 0) (pa_cons (pe_callB (show CallR _ _ (rLenL K) from o_lenl) (by rfl) (T.m_len) (by decide +kernel) (pa_cons (pv 1) pa_nil)) pa_nil))) (fun _ _ => rfl)))), ?_⟩
  obtain ⟨F, a, b, us, N, rfl, s, ps, nm, e, ne, le, q⟩ := h
  have lp := List.length_pos_iff.mpr ne
  refine ⟨_, rfl, _, rfl, ⟨_, rfl, b, us, rfl, .inl (sq_of s e), F, a, (us.length : Int), N, rfl, s, ps, nm, ⟨by omega, by omega⟩, fun r F1 H1 g1 p1 r0 r1 => ?_⟩⟩
  obtain ⟨v, hv⟩ : ∃ v, us[r.toNat]? = some v := ⟨_, List.getElem?_eq_getElem (by omega)⟩
  refine ⟨b, us, r, v, rfl, rfl, sq_of g1.sub (g1.fr _ _ e), ?_, q v F1 H1 g1 p1 (List.mem_of_getElem? hv)⟩
  have := atI_nat hv
  rwa [Int.toNat_of_nonneg r0] at this
theorem ok__law_shuffled (T : Tx K mg) : Cal P w K mg base 3 "_law_shuffled" SpShuf [] := by
  have c__law_draw := ok__law_draw (P := P) (w := w) (base := base) T
  refine cal_of T.t__law_shuffled sc__law_shuffled (fun _ _ _ _ _ _ us hl => match us, hl with | [_, _], _ => rfl) SpShuf.len (fun cdv A outer s H vs Q E hr h => ?_)
  have nd := sc__law_shuffled.nd
  have hu := hu_of hr
  refine ⟨_, PSs.nox (pss_cons (ps_set (i := 2) nd rfl (by first | exact Or.inl rfl | exact Or.inr rfl) (pe_lst pa_nil))
    (pss_cons (ps_for PassesOwn.never rfl (show PI _ _ _ (iList K _) from (pi_list (pv 1))) (pg_name (i := 3) nd rfl (by first | exact Or.inl rfl | exact Or.inr rfl))
    (pss_one (ps_expr (pe_bm PySem.F.plainAttrs_list PySem.F.slot_list_insert PySem.F.type_list_insert mt_insert (pv 2) (pa_cons (pe_c c__law_draw hr (by decide) (by rfl) (pa_cons (pv 0) (pa_cons (pe_op o_add (pe_callB (show CallR _ _ (rLenL K) from o_lenl) (by rfl) (T.m_len) (by decide +kernel) (pa_cons (pv 2) pa_nil)) pe_int) pa_nil))) (pa_cons (pv 3) pa_nil))))))
    (pss_one (ps_ret (pv 2))))), ?_⟩
  obtain ⟨F, a, v, zs, N, rfl, s, ps, nm, r, le, q⟩ := h
  refine st_asgN s (en_lst0 (α := Str)) fun p o F1 H1 g1 n f e ho => ?_
  obtain ⟨us, eo, hp0⟩ := ho
  cases hp0
  subst eo
  have ap : a ≠ p := fun z => by
    obtain ⟨_, _, _, _, ea, _⟩ := ps
    rw [z, n] at ea
    cases ea
  refine st_for (xs := zs) g1.sub (ei_list (ev_var (a := zs) rfl (Rep.mono g1.fr r))) (fun i σ' F' H' => ∃ (y : Option V) (ys : List Str), σ' = [some (.ref a), some v, some (.ref p), y] ∧ Ga a F H F' H' ∧ PS a (N + i) F' H' ∧ F' p = none ∧ H' p = some (.lst (ys.map V.str)) ∧ ys.Perm (zs.take i)) (fun F2 H2 g2 => ?_) (fun i z hz σ1 F2 H2 s2 ⟨y, ys, eσ, gr, p2, f2, e2, hys⟩ xv F3 H3 g3 rx => ?_) (fun σ1 F2 H2 s2 ⟨y, ys, eσ, gr, p2, f2, e2, hys⟩ => ?_)
  · exact ⟨none, [], rfl, (g1.trans g2).wide, (ps.grow (g1.trans g2)), g2.live e f, g2.at e, List.Perm.nil⟩
  · subst eσ
    have rx : xv = V.str z := rx
    subst rx
    have hi : i < zs.length := (List.getElem?_eq_some_iff.mp hz).1
    have yl : ys.length = i := by
      rw [hys.length_eq, List.length_take]
      omega
    have e3 := g3.at e2
    have p3 := p2.grow g3
    refine st_drop0 ?_
    refine ⟨_, rfl, .inl ⟨rfl, _, .inl (.inl e3)⟩, ?_⟩
    refine ⟨_, rfl, ⟨_, rfl, p, _, rfl, .inl (.inl (.inl e3)), ?_⟩⟩
    have lenE : (((ys.map V.str).length : Nat) : Int) = ys.length := by rw [List.length_map]
    refine ⟨_, 1, rfl, rfl, ?_⟩
    refine ⟨F3, a, _, N + i, rfl, g3.sub, p3, by omega, ⟨by omega, by omega⟩, fun r3 F4 H4 g4 p4 r0 r1 => ?_⟩
    refine ⟨_, rfl, p, ys.map V.str, r3, .str z, rfl, rfl, ?_⟩
    have e4 : H4 p = some (.lst (ys.map V.str)) := g4.hp p _ (fun z => ap z.symm) e3
    refine ⟨e4, by rw [List.length_map, sizeLine_eq]; omega, r0, by omega, ?_⟩
    have f4 : F4 p = none := by rw [g4.new p _ e3]; exact g3.live e2 f2
    have s4 := same_put (o := .lst ((ys.map V.str).take r3.toNat ++ [V.str z] ++ (ys.map V.str).drop r3.toNat)) g4.sub f4
    have n0 : H p = none := n
    refine ⟨F4, g3.fr.trans g4.fr, s4, _, ys.take r3.toNat ++ [z] ++ ys.drop r3.toNat, rfl, ?_, ?_, f4, ?_, ?_⟩
    · exact Grow.put ((gr.trans g3.wide).trans g4) (.inl n0) f4
    · obtain ⟨x0, x1, x2, x3, ea, fa, b⟩ := p4
      exact ⟨x0, x1, x2, x3, by rw [upd_ne ap]; exact ea, fa, b⟩
    · rw [upd_same, List.map_append, List.map_append, List.map_take, List.map_drop]
      rfl
    · rw [List.take_add_one, hz]
      have h1 : (ys.take r3.toNat ++ [z] ++ ys.drop r3.toNat).Perm (ys ++ [z]) := by
        rw [List.append_assoc]
        have h2 : ([z] ++ ys.drop r3.toNat).Perm (ys.drop r3.toNat ++ [z]) := List.perm_append_comm
        have h3 := List.Perm.append_left (ys.take r3.toNat) h2
        have h4 : ys.take r3.toNat ++ (ys.drop r3.toNat ++ [z]) = ys ++ [z] := by rw [← List.append_assoc, List.take_append_drop]
        rw [h4] at h3
        exact h3
      exact h1.trans (hys.append_right _)
  · subst eσ
    rw [List.take_length] at hys
    refine ⟨_, rfl, q (.ref p) ys (upd F2 p (.lst (ys.map V.str))) H2 (gr.freeze n f2 e2) ?_ hys (rep_lst upd_same (strs_paired _))⟩
    obtain ⟨x0, x1, x2, x3, ea, fa, b⟩ := p2
    exact ⟨x0, x1, x2, x3, ea, by rw [upd_ne ap]; exact fa, b⟩
end
end K90
set_option maxHeartbeats 4000000
namespace K90
open PySem PySem.Spec PyProof.Rows L2 SX Ly
/-! ### there is a best cover -/
open Classical in
theorem least_nat {p : Nat → Prop} (h : ∃ n, p n) : ∃ n, p n ∧ ∀ m, p m → n ≤ m := by
  obtain ⟨n, hn⟩ := h
  induction n using Nat.strongRecOn with
  | _ n ih =>
    by_cases z : ∃ m, m < n ∧ p m
    · obtain ⟨m, hm, hp⟩ := z
      exact ih m hm hp
    · exact ⟨n, hn, fun m hm => Nat.le_of_not_lt fun lt => z ⟨m, lt, hm⟩⟩
theorem least_lex : ∀ (n : Nat) {p : List Nat → Prop}, (∃ l, p l) → (∀ l, p l → l.length = n) → ∃ l, p l ∧ ∀ l', p l' → l ≤ l'
  | 0, p, ⟨l, hl⟩, hn => ⟨l, hl, fun l' h' => by
    rw [List.length_eq_zero_iff.mp (hn l hl), List.length_eq_zero_iff.mp (hn l' h')]
    exact List.le_refl _⟩
  | n + 1, p, ⟨l, hl⟩, hn => by
    have cons : ∀ l, p l → ∃ c r, l = c :: r := fun l h => by
      cases l with
      | nil => have := hn [] h; simp at this
      | cons c r => exact ⟨c, r, rfl⟩
    obtain ⟨c0, r0, e0⟩ := cons l hl
    obtain ⟨c, ⟨r, hr⟩, hc⟩ := least_nat (p := fun c => ∃ r, p (c :: r)) ⟨c0, r0, e0 ▸ hl⟩
    obtain ⟨r', hr', hm⟩ := least_lex n (p := fun r => p (c :: r)) ⟨r, hr⟩ fun r h => by
      have := hn _ h
      simpa using this
    refine ⟨c :: r', hr', fun l' h' => ?_⟩
    obtain ⟨d, t, e⟩ := cons l' h'
    subst e
    rw [List.cons_le_cons_iff]
    by_cases z : c = d
    · subst z
      exact .inr ⟨rfl, hm t h'⟩
    · left
      have := hc d ⟨t, h'⟩
      omega
theorem best_any {qs : List Pm} {ms : List Int} (h : ∃ ws, CovM qs ms ws) : ∃ t, IsBestM qs ms t := by
  obtain ⟨ws0, h0⟩ := h
  obtain ⟨n, ⟨ws1, h1, e1⟩, hm⟩ := least_nat (p := fun n => ∃ ws, CovM qs ms ws ∧ (txM ws).length = n) ⟨_, ws0, h0, rfl⟩
  obtain ⟨t, ⟨ws, hw, et, el⟩, hl⟩ := least_lex n (p := fun t => ∃ ws, CovM qs ms ws ∧ txM ws = t ∧ (txM ws).length = n) ⟨_, ws1, h1, rfl, e1⟩ fun l ⟨ws, _, e, el⟩ => by rw [← e]; exact el
  refine ⟨t, ws, hw, et, fun ws' h' => ?_⟩
  have lt : t.length = n := by rw [← et]; exact el
  have le := hm _ ⟨ws', h', rfl⟩
  by_cases z : (txM ws').length = n
  · exact .inr ⟨by omega, hl _ ⟨ws', h', rfl, z⟩⟩
  · left
    omega
/-! ### the shortest text is a text of pieces -/
def pmOf (hour : Int) (p : Int × Int) : Pm := (wordOf p, toldOf hour p)
theorem useful_back {hour : Int} {ms : List Int} : ∀ {ws : List Pm}, (∀ q ∈ ws, q ∈ useful hour ms) → ∃ ps : List (Int × Int), (∀ p ∈ ps, p ∈ pcs hour) ∧ ws = ps.map (pmOf hour)
  | [], _ => ⟨[], fun _ h => absurd h (by simp), rfl⟩
  | q :: r, h => by
    obtain ⟨ps, h1, h2⟩ := useful_back (ws := r) fun x hx => h x (List.mem_cons_of_mem _ hx)
    obtain ⟨p, hp, e, _⟩ := mem_useful.mp (h q (List.mem_cons_self ..))
    exact ⟨p :: ps, fun x hx => by
      rcases List.mem_cons.mp hx with z | z
      · exact z ▸ hp
      · exact h1 x z, by rw [List.map_cons, h2, e]; rfl⟩
theorem tx_line (hour : Int) : ∀ (ps : List (Int × Int)), (txM (ps.map (pmOf hour))).dropLast = lineOf ps
  | [] => rfl
  | [p] => by
    show (((wordOf p).cps.toList ++ [32]) ++ []).dropLast = _
    rw [List.append_nil, List.dropLast_concat]
    rfl
  | p :: q :: r => by
    have ih := tx_line hour (q :: r)
    have e : txM ((p :: q :: r).map (pmOf hour)) = (codes p ++ [32]) ++ txM ((q :: r).map (pmOf hour)) := rfl
    have ne : txM ((q :: r).map (pmOf hour)) ≠ [] := by
      show ((wordOf q).cps.toList ++ [32]) ++ _ ≠ []
      simp
    rw [e, List.dropLast_append_of_ne_nil ne, ih]
    show codes p ++ [32] ++ lineOf (q :: r) = codes p ++ (32 :: lineOf (q :: r))
    rw [List.append_assoc]
    rfl
theorem read_cov {hour : Int} {ms : List Int} (hok : OkMins hour ms) {ps : List (Int × Int)} (hp : ∀ p ∈ ps, p ∈ pcs hour) (h : ∀ z, (∃ p ∈ ps, z ∈ toldOf hour p) ↔ z ∈ ms) : readPs hour ps = ms :=
  sorted_ext (readPs_sorted _ _) hok.2.1 fun z => (mem_readPs hp).trans (h z)
/-- what the shortest text is -/
theorem short_text {hour : Int} {ms : List Int} (hok : OkShort hour ms) : ∃ ps : List (Int × Int), (∀ p ∈ ps, p ∈ pcs hour) ∧ shortM hour ms = textOf ps ∧ readPs hour ps = ms ∧ (lineOf ps).length ≤ ((txM (ms.map fun m => (numS m, [m]))).dropLast).length ∧ (ms ≠ [] → ps ≠ []) := by
  by_cases z : ms = []
  · refine ⟨[], fun _ h => absurd h (by simp), ?_, ?_, Nat.zero_le _, fun h => absurd z h⟩
    · unfold shortM
      rw [if_pos z]
      rfl
    · rw [z]
      refine sorted_ext (readPs_sorted _ _) .nil fun x => ?_
      rw [mem_readPs (fun _ h => absurd h (by simp))]
      simp
  · obtain ⟨t, ht⟩ := best_any ⟨_, single_cov hok.1⟩
    have e := bestM_is ht
    obtain ⟨ws, ⟨h1, h2⟩, et, hm⟩ := ht
    obtain ⟨ps, hp, rfl⟩ := useful_back h1
    refine ⟨ps, hp, ?_, read_cov hok.1 hp fun x => ⟨fun ⟨p, hpp, hx⟩ => ?_, fun hx => ?_⟩, ?_, fun _ e0 => ?_⟩
    · unfold shortM
      rw [if_neg z, e, ← et, tx_line]
      rfl
    · exact (useful_nn (h1 _ (List.mem_map.mpr ⟨p, hpp, rfl⟩))).2.2 x hx
    · obtain ⟨q, hq, hxq⟩ := h2 x hx
      obtain ⟨p, hpp, rfl⟩ := List.mem_map.mp hq
      exact ⟨p, hpp, hxq⟩
    · rw [← tx_line hour ps, et, List.length_dropLast, List.length_dropLast]
      rcases hm _ (single_cov hok.1) with h | ⟨h, _⟩ <;> omega
    · subst e0
      cases ms with
      | nil => exact z rfl
      | cons m r =>
        obtain ⟨q, hq, _⟩ := h2 m (List.mem_cons_self ..)
        exact absurd hq (by simp)
theorem plain_text {hour : Int} {ms : List Int} (hok : OkMins hour ms) : ∃ ps : List (Int × Int), (∀ p ∈ ps, p ∈ pcs hour) ∧ plainText hour ms = textOf ps ∧ readPs hour ps = ms ∧ lineOf ps = (txM (ms.map fun m => (numS m, [m]))).dropLast := by
  have hp : ∀ p ∈ ms.map (fun m => (m, (0 : Int))), p ∈ pcs hour := fun p hp => by
    obtain ⟨m, hm, rfl⟩ := List.mem_map.mp hp
    have := hok.2.2 m hm
    exact mem_pcs.mpr (.inl ⟨rfl, this.1, this.2⟩)
  refine ⟨ms.map fun m => (m, 0), hp, ?_, read_cov hok hp fun x => ?_, ?_⟩
  · unfold plainText
    rw [← text_join, List.map_map]
    rfl
  · constructor
    · rintro ⟨p, hpp, hx⟩
      obtain ⟨m, hm, rfl⟩ := List.mem_map.mp hpp
      have : x = m := by simpa [toldOf] using hx
      rw [this]
      exact hm
    · intro hx
      exact ⟨(x, 0), List.mem_map.mpr ⟨x, hx, rfl⟩, by simp [toldOf]⟩
  · rw [← tx_line hour, List.map_map]
    rfl
theorem line_len {hour : Int} {ms : List Int} (hok : OkShort hour ms) : ((txM (ms.map fun m => (numS m, [m]))).dropLast).length ≤ 64 := by
  have := single_len (ms := ms) fun m hm => by
    have := hok.1.2.2 m hm
    have := hok.1.1
    omega
  have := hok.2
  rw [List.length_dropLast]
  omega
end K90
set_option maxHeartbeats 4000000
namespace K90
open PySem PySem.Spec PyProof.Rows L2 SX Ly
open Rep
section
variable {P : Program} {w : World} {K : PySem.W.Frag} {mg : Str → Option Value} {base : Heap}
theorem ok__law_one_right (T : Tx K mg) : Cal P w K mg base 6 "_law_one_right" (Sp2 OkShort fun _ _ => true) [] := by
  have c__law_shortest := ok__law_shortest (P := P) (w := w) (base := base) T
  have c_plain_minutes := ok_plain_minutes (P := P) (w := w) (base := base) T
  have c_read_minutes := ok_read_minutes (P := P) (w := w) (base := base) T
  have c_shortest_minutes := ok_shortest_minutes (P := P) (w := w) (base := base) T
  refine cal_of T.t__law_one_right sc__law_one_right (fun _ _ _ _ _ _ us hl => match us, hl with | [_, _], _ => rfl) Sp2.len (fun cdv A outer s H vs Q E hr h => ?_)
  have nd := sc__law_one_right.nd
  have hu := hu_of hr
  refine ⟨_, PSs.nox (pss_cons (ps_par (i := 2) (j := 3) (by rfl) nd rfl rfl (by decide) rfl rfl (pa_cons (pe_c c__law_shortest hr (by decide) (by rfl) (pa_cons (pv 0) (pa_cons (pv 1) pa_nil))) (pa_cons (pe_c c_plain_minutes hr (by decide) (by rfl) (pa_cons (pv 0) (pa_cons (pv 1) pa_nil))) pa_nil)) (by rfl))
    (pss_one (ps_ret (pe_and (pe_cmpR (op_eq) (pe_c c_shortest_minutes hr (by decide) (by rfl) (pa_cons (pv 0) (pa_cons (pv 1) pa_nil))) (pv 2) (nomark _)) (pe_and (pe_cmpR (show OpR _ _ (rEqD K) from op_eqD hr.units) (pe_c c_read_minutes hr (by decide) (by rfl) (pa_cons (pv 0) (pa_cons (pv 2) pa_nil))) (pv 1) (nomark _)) (pe_and (pe_cmpR (o_le) (pe_callB (o_lens) (by rfl) (T.m_len) (by decide +kernel) (pa_cons (pv 2) pa_nil)) (pe_callB (o_lens) (by rfl) (T.m_len) (by decide +kernel) (pa_cons (pv 3) pa_nil)) (nomark _)) (pe_one (pe_cmpR (show OpR _ _ (rEqD K) from op_eqD hr.units) (pe_c c_read_minutes hr (by decide) (by rfl) (pa_cons (pv 0) (pa_cons (pv 3) pa_nil))) (pv 1) (nomark _))))))))), ?_⟩
  obtain ⟨F, v, w, hour, ms, rfl, s, r, r2, hok, q⟩ := h
  obtain ⟨ps, hp, es, rs, ls, _⟩ := short_text hok
  obtain ⟨pp, hpp, ep, rp, lp⟩ := plain_text hok.1
  have l64 := line_len hok
  have lenS : (shortM hour ms).length = (lineOf ps).length := by rw [es]; exact S_len _
  have lenP : (plainText hour ms).length = (lineOf pp).length := by rw [ep]; exact S_len _
  have lpl : (lineOf pp).length ≤ 64 := by rw [lp]; exact l64
  have ok1 : OkText hour (shortM hour ms) := ⟨hok.1.1, by rw [lenS]; omega, ps, hp, es⟩
  have ok2 : OkText hour (plainText hour ms) := ⟨hok.1.1, by rw [lenP]; omega, pp, hpp, ep⟩
  have rd1 : readMin hour (shortM hour ms) = ms := by rw [es, read_text hp, rs]
  have rd2 : readMin hour (plainText hour ms) = ms := by rw [ep, read_text hpp, rp]
  refine st_par s (ev_call2 (pre := OkShort) (f := shortM) (a := hour) (b := ms) hok (ev_var rfl r) (ev_var rfl r2)) (ev_call2 (pre := OkMins) (f := plainText) (a := hour) (b := ms) hok.1 (ev_var rfl r) (ev_var rfl r2)) fun vd vp F1 H1 g1 rdue rpl => ?_
  have r' := Rep.mono g1.fr r
  have r2' := Rep.mono g1.fr r2
  refine st_ret (a := true) g1.sub (Ev.is (ev_andV (ev_eqS (ev_call2 (pre := OkShort) (f := shortM) (a := hour) (b := ms) hok (ev_var rfl r') (ev_var rfl r2')) (ev_var rfl rdue)) fun _ => ev_andV (ev_eqD (α := List Int) (by decide) (ev_call2 (pre := OkText) (f := readMin) (a := hour) (b := shortM hour ms) ok1 (ev_var rfl r') (ev_var rfl rdue)) (ev_var rfl r2')) fun _ =>
    ev_andV (ev_le (ev_lenS (by rw [lenS, sizeLine_eq]; omega) (ev_var rfl rdue)) (ev_lenS (by rw [lenP, sizeLine_eq]; omega) (ev_var rfl rpl))) fun _ => ev_eqD (α := List Int) (by decide) (ev_call2 (pre := OkText) (f := readMin) (a := hour) (b := plainText hour ms) ok2 (ev_var rfl r') (ev_var rfl rpl)) (ev_var rfl r2')) ?_) fun u F2 H2 g2 r3 => q u F2 H2 (g1.trans g2) r3
  rw [rd1, rd2]
  have le : ((shortM hour ms).length : Int) ≤ (plainText hour ms).length := by
    rw [lenS, lenP, lp]
    omega
  simp [le]
/-- all lots of minutes below i -/
def lotsTo : Nat → List (List Int)
  | 0 => [[]]
  | i + 1 => lotsTo i ++ (lotsTo i).map fun l => l ++ [(i : Int)]
theorem lots_ok : ∀ i, (lotsTo i).length = 2 ^ i ∧ ∀ l ∈ lotsTo i, l.Pairwise (· < ·) ∧ l.length ≤ i ∧ ∀ m ∈ l, 0 ≤ m ∧ m < (i : Int)
  | 0 => ⟨rfl, fun l h => by
    have : l = [] := by simpa [lotsTo] using h
    subst this
    simp⟩
  | i + 1 => by
    obtain ⟨h1, h2⟩ := lots_ok i
    refine ⟨?_, fun l h => ?_⟩
    · show (lotsTo i ++ (lotsTo i).map _).length = _
      rw [List.length_append, List.length_map, h1, Nat.pow_succ]
      omega
    · have h : l ∈ lotsTo i ++ (lotsTo i).map fun l => l ++ [(i : Int)] := h
      rcases List.mem_append.mp h with h | h
      · obtain ⟨a, b, c⟩ := h2 l h
        refine ⟨a, by omega, fun m hm => ?_⟩
        have := c m hm
        omega
      · obtain ⟨l0, h0, rfl⟩ := List.mem_map.mp h
        obtain ⟨a, b, c⟩ := h2 l0 h0
        refine ⟨?_, by rw [List.length_append]; simp; omega, fun m hm => ?_⟩
        · rw [List.pairwise_append]
          refine ⟨a, by simp, fun x hx y hy => ?_⟩
          have : y = i := by simpa using hy
          rw [this]
          exact (c x hx).2
        · rcases List.mem_append.mp hm with z | z
          · have := c m z
            omega
          · have : m = i := by simpa using z
            omega
theorem ok__law_all_right (T : Tx K mg) : Cal P w K mg base 7 "_law_all_right" (Sp1 (fun hour : Int => 2 ≤ hour ∧ hour ≤ 10) fun _ => true) [] := by
  have c__law_one_right := ok__law_one_right (P := P) (w := w) (base := base) T
  refine cal_of T.t__law_all_right sc__law_all_right (fun _ _ _ _ _ _ us hl => match us, hl with | [_], _ => rfl) Sp1.len (fun cdv A outer s H vs Q E hr h => ?_)
  have nd := sc__law_all_right.nd
  have hu := hu_of hr
  refine ⟨_, PSs.nox (pss_cons (ps_set (i := 1) nd rfl (by first | exact Or.inl rfl | exact Or.inr rfl) (pe_lst (pa_cons (pe_lst pa_nil) pa_nil)))
    (pss_cons (ps_for PassesOwn.never rfl (pi_range1 (by rfl) (T.m_range) (pa_cons (pv 0) pa_nil)) (pg_name (i := 2) nd rfl (by first | exact Or.inl rfl | exact Or.inr rfl))
    (pss_one (ps_set (i := 1) nd rfl (by first | exact Or.inl rfl | exact Or.inr rfl) (pe_op op_cat (pv 1) (pe_lc (own := [("lot", 3)]) rfl nd (show PI _ _ _ (iList K _) from (pi_list (pv 1))) (blkOk_by (N := N__law_all_right) (sc := (defScope s__law_all_right)) (by decide +kernel)) (fun _ _ _ _ _ => (pg_name (i := 3) nd rfl (by first | exact Or.inl rfl | exact Or.inr rfl))) (fun _ _ _ _ _ => pts_nil) (fun _ _ _ _ _ => (pe_op op_cat (pv 3) (pe_lst (pa_cons (pv 2) pa_nil)))))))))
    (pss_one (ps_ret (pe_cmpR (show OpR _ _ (rEqD K) from op_eqD hr.units) (pe_lc (own := [("lot", 3)]) rfl nd (show PI _ _ _ (iList K _) from (pi_list (pv 1))) (blkOk_by (N := N__law_all_right) (sc := (defScope s__law_all_right)) (by decide +kernel)) (fun _ _ _ _ _ => (pg_name (i := 3) nd rfl (by first | exact Or.inl rfl | exact Or.inr rfl))) (fun _ _ _ _ _ => pts_one (pt_not (pt_val (pe_c c__law_one_right hr (by decide) (by rfl) (pa_cons (pv 0) (pa_cons (pv 3) pa_nil)))))) (fun _ _ _ _ _ => (pv 3))) (pe_lst pa_nil) (nomark _)))))), ?_⟩
  obtain ⟨F, v, hour, rfl, s, r, hh, q⟩ := h
  have r : v = V.int hour := r
  subst r
  refine st_asg s (ev_lst1 (α := List Int) (a := []) ev_lst0) fun vl F1 H1 g1 rl => ?_
  have pw : ∀ i : Nat, i ≤ 10 → 2 ^ i ≤ 1024 := fun i hi => Nat.pow_le_pow_right (n := 2) (by decide) hi
  refine st_for (xs := ups 0 hour.toNat) g1.sub (ei_range1 (i := hour) (by omega) (ev_var (a := hour) rfl rfl)) (fun i σ' F' H' => ∃ (vl : V) (y2 y3 : Option V), σ' = [some (.int hour), some vl, y2, y3] ∧ Gr F H F' H' ∧ rep F' vl (lotsTo i)) (fun F2 H2 g2 => ?_) (fun i z hz σ1 F2 H2 s2 ⟨vl, y2, y3, eσ, gr, rv⟩ xv F3 H3 g3 rx => ?_) (fun σ1 F2 H2 s2 ⟨vl, y2, y3, eσ, gr, rv⟩ => ?_)
  · exact ⟨vl, none, none, rfl, g1.trans g2, Rep.mono g2.fr rl⟩
  · subst eσ
    obtain ⟨hi, ez⟩ := ups_at hz
    have ez : z = (i : Int) := by omega
    subst ez
    have rx : xv = V.int i := rx
    subst rx
    have h2 := (lots_ok i).1
    have pi := pw i (by omega)
    have rv3 := Rep.mono g3.fr rv
    refine st_asg (a := lotsTo (i + 1)) g3.sub (ev_cat ?_ (ev_var rfl rv3) (ev_map (f := fun l : List Int => l ++ [(i : Int)]) (ei_list (ev_var rfl rv3)) ?_ (fun _ => rfl) fun j l hl F4 H4 y g4 ry => ev_cat ?_ (ev_var rfl ry) (ev_lst1 (ev_var (a := (i : Int)) rfl rfl)))) fun v4 F4 H4 g4 r4 => ?_
    · rw [List.length_map, h2, sizeLine_eq]
      omega
    · rw [h2, sizeLine_eq]
      omega
    · have := ((lots_ok i).2 l (List.mem_of_getElem? hl)).2.1
      rw [List.length_singleton, sizeLine_eq]
      omega
    · exact ⟨F4, g3.fr.trans g4.fr, g4.sub, v4, _, _, rfl, gr.trans (g3.trans g4), r4⟩
  · subst eσ
    rw [ups_len] at rv
    have pi := pw hour.toNat (by omega)
    obtain ⟨h2, h3⟩ := lots_ok hour.toNat
    refine st_ret (a := true) s2 (Ev.is (ev_eqD (α := List (List Int)) (by decide) (ev_filter (p := fun _ : List Int => !true) (f := fun l => l) (ei_list (ev_var rfl rv)) ?_ (fun _ => rfl) fun j l hl F4 H4 y g4 ry => ⟨et_not (et_B (ev_call2 (pre := OkShort) (f := fun _ _ => true) (a := hour) (b := l) ?_ (ev_var rfl rfl) (ev_var rfl ry))), fun _ => ev_var rfl ry⟩) ev_lst0) ?_) fun u F4 H4 g4 r4 => q u F4 H4 (gr.trans g4) r4
    · rw [h2, sizeLine_eq]
      omega
    · obtain ⟨a, b, c⟩ := h3 l (List.mem_of_getElem? hl)
      refine ⟨⟨⟨by omega, by omega⟩, a, fun m hm => ?_⟩, by omega⟩
      have := c m hm
      omega
    · simp
end
end K90
set_option maxHeartbeats 4000000
namespace Ly
open PySem PySem.Spec PyProof.Rows L2 SX
open Rep
/-- a walk that stands, gone through -/
theorem for_walk {α : Type} [Rep α] {J : It} {xs : List α} {F0 H0 : Hp} {σ : L2.St} {g : TG} {tb : TS} {D : Ends} (wk : Wlk J F0 xs) (s0 : Same F0 H0) (W : Nat → L2.St → Hp → Hp → Prop) (w0 : W 0 σ F0 H0)
    (hs : ∀ (i : Nat) z, xs[i]? = some z → ∀ σ1 F1 H1, Same F1 H1 → W i σ1 F1 H1 → ∀ x F2 H2, Gr F1 H1 F2 H2 → rep F2 x z →
      g x σ1 H2 fun σ2 H3 => tb { D with nx := fun σ' H' => ∃ F', Same F1 F' ∧ Same F' H' ∧ W (i + 1) σ' F' H', ct := fun σ' H' => ∃ F', Same F1 F' ∧ Same F' H' ∧ W (i + 1) σ' F' H', bk := D.nx } σ2 H3)
    (hd : ∀ σ1 F1 H1, Same F1 H1 → W xs.length σ1 F1 H1 → D.nx σ1 H1) : ∃ W : Nat → Nat → L2.St → Hp → Prop, (∃ m, W 0 m σ H0) ∧ ∀ i m σ H, W i m σ H →
  (J.stop i H ∧ D.nx σ H) ∨ (J.go i H ∧ ∃ N : L2.St → Hp → Prop, (∀ σ' H', N σ' H' → ∃ m', m' < m ∧ W (i + 1) m' σ' H') ∧ ∀ x H', J.yld i H x H' → g x σ H' fun σ2 H2 => tb { D with nx := N, ct := N, bk := D.nx } σ2 H2) := by
  refine ⟨fun i m σ' H' => m = xs.length - i ∧ i ≤ xs.length ∧ ∃ F', Same F0 F' ∧ Same F' H' ∧ W i σ' F' H', ⟨xs.length, by simp, Nat.zero_le _, F0, Same.refl _, s0, w0⟩, ?_⟩
  rintro i m σ' H' ⟨rfl, hl, F', s1, s2, wi⟩
  by_cases lt : i < xs.length
  · refine .inr ⟨wk.go F' H' s1 s2 i lt, fun σ2 H2 => ∃ F2, Same F' F2 ∧ Same F2 H2 ∧ W (i + 1) σ2 F2 H2, fun σ2 H2 ⟨F2, a1, a2, a3⟩ => ⟨_, by omega, rfl, lt, F2, s1.trans a1, a2, a3⟩, fun x H2 y => ?_⟩
    obtain ⟨F2, g2, rx⟩ := wk.yld F' H' s1 s2 i _ (List.getElem?_eq_getElem lt) x H2 y
    exact hs i _ (List.getElem?_eq_getElem lt) σ' F' H' s2 wi x F2 H2 g2 rx
  · have e : i = xs.length := by omega
    subst e
    exact .inl ⟨wk.stop F' H' s1 s2, hd σ' F' H' s2 wi⟩
theorem inV_ints (m : Int) : ∀ ms : List Int, inV (.int m) (ms.map V.int) = ms.contains m
  | [] => rfl
  | x :: r => by
    show (eqV (.int x) (.int m) || inV (.int m) (r.map V.int)) = _
    rw [inV_ints m r, List.contains_cons]
    congr 1
    show (x == m) = (m == x)
    rw [Bool.eq_iff_iff, beq_iff_eq, beq_iff_eq]
    exact ⟨Eq.symm, Eq.symm⟩
theorem ev_neS0 {K : PySem.W.Frag} {σ : L2.St} {F H : Hp} {ta tb : TE} {zs : List Str} (hz : ∀ z ∈ zs, PyData.strOk z = true) (ha : Ev ta σ F H zs) (hb : Ev tb σ F H ([] : List Str)) : Ev (tOp (rNeD K) ta tb) σ F H (!decide (zs = [])) := ev_op (fun F H v u Q s rx ry q => by
  obtain ⟨p, vs, rfl, e, hp⟩ := rx
  obtain ⟨p2, vs2, rfl, e2, hp2⟩ := ry
  have ev := paired_strs hp
  subst ev
  cases hp2
  have dall : ∀ zs : List Str, DpAll K H (zs.map V.str) (zs.map PyData.str) := fun zs => by
    induction zs with
    | nil => exact .nil
    | cons x r ih => exact .cons (.str x) ih
  have lay : ∀ zs : List Str, (∀ z ∈ zs, PyData.strOk z = true) → PyData.canLayAll0 (zs.map PyData.str) = true := fun zs => by
    induction zs with
    | nil => intro _; simp [PyData.canLayAll0]
    | cons x r ih =>
      intro h
      rw [List.map_cons, PyData.canLayAll0, ih fun z hz => h z (List.mem_cons_of_mem _ hz), PyData.canLay0, h x (List.mem_cons_self ..)]
      rfl
  have deep : ∀ zs : List Str, PyData.depthAll (zs.map PyData.str) = 0 := fun zs => by
    induction zs with
    | nil => simp [PyData.depthAll]
    | cons x r ih => rw [List.map_cons, PyData.depthAll, ih]; simp [PyData.depth]
  refine ⟨.list (zs.map PyData.str), .list [], .lst (sq_of s e) (dall zs), .lst (sq_of s e2) .nil, ?_, ?_, ?_⟩
  · unfold SeqAt.shaped
    rw [PyData.canLay0, lay zs hz, PyData.depth, deep]
    rfl
  · unfold SeqAt.shaped
    rw [PyData.canLay0, PyData.depth]
    simp [PyData.canLayAll0, PyData.depthAll]
  · have eq : PyData.eqv (.list (zs.map PyData.str)) (.list []) = decide (zs = []) := by
      rw [PyData.eqv]
      cases zs with
      | nil => simp [PyData.eqvAll]
      | cons x r => simp [PyData.eqvAll]
    rw [eq]
    exact q _ F H (Grow.refl s) rfl) ha hb
theorem ev_notinI {K : PySem.W.Frag} {σ : L2.St} {F H : Hp} {ta tb : TE} {m : Int} {ms : List Int} (ha : Ev ta σ F H m) (hb : Ev tb σ F H ms) : Ev (tOp (rIn K true) ta tb) σ F H (!ms.contains m) := ev_op (fun F H v u Q s rx ry q => by
  have rx : v = V.int m := rx
  subst rx
  obtain ⟨p, vs, rfl, e, hp⟩ := ry
  have ev := paired_ints hp
  subst ev
  refine ⟨p, _, rfl, .inl (sq_of s e), rfl, List.all_eq_true.mpr fun y hy => ?_, ?_⟩
  · obtain ⟨k, _, rfl⟩ := List.mem_map.mp hy
    rfl
  · rw [if_pos rfl, inV_ints]
    exact q _ F H (Grow.refl s) rfl) ha hb
end Ly
namespace K90
open PySem PySem.Spec PyProof.Rows L2 SX Ly
open Rep
theorem line_le {hour : Int} (hh : hour ≤ 1000) : ∀ {ps : List (Int × Int)}, (∀ p ∈ ps, p ∈ pcs hour) → (lineOf ps).length ≤ 14 * ps.length ∧ ps.length ≤ (lineOf ps).length
  | [], _ => ⟨Nat.zero_le _, Nat.zero_le _⟩
  | [p], h => by
    have a := codes_len hh (h p (List.mem_cons_self ..))
    have b := List.length_pos_iff.mpr (codes_ne (h p (List.mem_cons_self ..)))
    show (codes p).length ≤ _ ∧ _ ≤ (codes p).length
    simp
    omega
  | p :: q :: r, h => by
    have a := codes_len hh (h p (List.mem_cons_self ..))
    have b := List.length_pos_iff.mpr (codes_ne (h p (List.mem_cons_self ..)))
    obtain ⟨c, d⟩ := line_le hh (ps := q :: r) fun z hz => h z (List.mem_cons_of_mem _ hz)
    have e : lineOf (p :: q :: r) = codes p ++ (32 :: lineOf (q :: r)) := rfl
    rw [e, List.length_append]
    simp at c d ⊢
    omega
theorem back_words {l : List (Int × Int)} : ∀ {ys : List Str}, (∀ y ∈ ys, ∃ p ∈ l, y = wordOf p) → ∃ ps : List (Int × Int), (∀ p ∈ ps, p ∈ l) ∧ ys = ps.map wordOf
  | [], _ => ⟨[], fun _ h => absurd h (by simp), rfl⟩
  | y :: r, h => by
    obtain ⟨ps, h1, h2⟩ := back_words (ys := r) fun z hz => h z (List.mem_cons_of_mem _ hz)
    obtain ⟨p, hp, e⟩ := h y (List.mem_cons_self ..)
    exact ⟨p :: ps, fun x hx => by
      rcases List.mem_cons.mp hx with z | z
      · exact z ▸ hp
      · exact h1 x z, by rw [List.map_cons, h2, e]⟩
theorem words_one {hour : Int} {p q : Int × Int} (hp : p ∈ pcs hour) (hq : q ∈ pcs hour) (e : wordOf p = wordOf q) : p = q := by
  have a := nn_pcs hp
  have b := nn_pcs hq
  exact word_inj (m := p.1) (s := p.2) (m' := q.1) (s' := q.2) a.1 a.2 b.1 b.2 e
/-- words in any order tell the same -/
theorem any_order {hour : Int} {ms : List Int} (hok : OkMins hour ms) {ps : List (Int × Int)} (hp : ∀ p ∈ ps, p ∈ pcs hour) (hr : readPs hour ps = ms) {c : Int × Int} (hc : c ∈ pcs hour) (hcm : ∀ m ∈ toldOf hour c, m ∈ ms) {ys : List Str} (h : ys.Perm (ps.map wordOf ++ [wordOf c])) :
    ∃ ps' : List (Int × Int), (∀ p ∈ ps', p ∈ pcs hour) ∧ ys = ps'.map wordOf ∧ readPs hour ps' = ms ∧ ps'.length = ps.length + 1 := by
  have all : ∀ p ∈ ps ++ [c], p ∈ pcs hour := fun p h => by
    rcases List.mem_append.mp h with z | z
    · exact hp p z
    · rw [List.mem_singleton.mp z]; exact hc
  have em : ps.map wordOf ++ [wordOf c] = (ps ++ [c]).map wordOf := by rw [List.map_append]; rfl
  rw [em] at h
  obtain ⟨ps', h1, h2⟩ := back_words (l := ps ++ [c]) (ys := ys) fun y hy => by
    obtain ⟨p, hp, e⟩ := List.mem_map.mp (h.mem_iff.mp hy)
    exact ⟨p, hp, e.symm⟩
  refine ⟨ps', fun p hp => all p (h1 p hp), h2, read_cov hok (fun p hp => all p (h1 p hp)) fun z => ⟨fun ⟨p, hpp, hz⟩ => ?_, fun hz => ?_⟩, ?_⟩
  · rcases List.mem_append.mp (h1 p hpp) with y | y
    · rw [← hr]
      exact (mem_readPs hp).mpr ⟨p, y, hz⟩
    · rw [List.mem_singleton.mp y] at hz
      exact hcm z hz
  · rw [← hr] at hz
    obtain ⟨p, hpp, hz⟩ := (mem_readPs hp).mp hz
    have : wordOf p ∈ ys := h.mem_iff.mpr (List.mem_map.mpr ⟨p, List.mem_append_left _ hpp, rfl⟩)
    rw [h2] at this
    obtain ⟨p', hp', e⟩ := List.mem_map.mp this
    have := words_one (all p' (h1 p' hp')) (hp p hpp) e
    exact ⟨p', hp', this ▸ hz⟩
  · have := h.length_eq
    rw [h2, List.length_map, List.length_map, List.length_append] at this
    exact this
def SpRight : Sp := fun vs H Q _ => ∃ (F : Hp) (a : Addr) (hour : Int) (N : Nat), vs = [.ref a, .int hour] ∧ Same F H ∧ PS a N F H ∧ N + 1000 < most ∧ (2 ≤ hour ∧ hour ≤ 1000) ∧ ∀ F' H', Ga a F H F' H' → PS a (N + 1000) F' H' → Q (.bl true) H'
theorem SpRight.len (vs : List V) (H : Hp) (Q : VK) (E : XK) (h : SpRight vs H Q E) : vs.length = 2 := by obtain ⟨_, _, _, _, rfl, _⟩ := h; rfl
section
variable {P : Program} {w : World} {K : PySem.W.Frag} {mg : Str → Option Value} {base : Heap}
theorem ok__law_right (T : Tx K mg) : Cal P w K mg base 7 "_law_right" SpRight [] := by
  have c__law_draw := ok__law_draw (P := P) (w := w) (base := base) T
  have c__law_one_of := ok__law_one_of (P := P) (w := w) (base := base) T
  have c__law_one_right := ok__law_one_right (P := P) (w := w) (base := base) T
  have c__law_pieces := ok__law_pieces (P := P) (w := w) (base := base) T
  have c__law_shuffled := ok__law_shuffled (P := P) (w := w) (base := base) T
  have c_read_minutes := ok_read_minutes (P := P) (w := w) (base := base) T
  have c_shortest_minutes := ok_shortest_minutes (P := P) (w := w) (base := base) T
  refine cal_of T.t__law_right sc__law_right (fun _ _ _ _ _ _ us hl => match us, hl with | [_, _], _ => rfl) SpRight.len (fun cdv A outer s H vs Q E hr h => ?_)
  have nd := sc__law_right.nd
  have hu := hu_of hr
  refine ⟨_, PSs.nox (pss_cons (ps_asg (pe_tup (pa_cons (pe_c c__law_pieces hr (by decide) (by rfl) (pa_cons (pv 1) pa_nil)) (pa_cons (pe_lst pa_nil) pa_nil))) (show PG _ _ (gTup K 2 _) from (pg_tup (by rfl) (pgs_cons (pg_name (i := 2) nd rfl (by first | exact Or.inl rfl | exact Or.inr rfl)) (pgs_cons (pg_name (i := 3) nd rfl (by first | exact Or.inl rfl | exact Or.inr rfl)) pgs_nil)))))
    (pss_cons (ps_setLc (i := 5) (own := [("word", 4)]) rfl nd rfl rfl (sw_true rfl rfl rfl (by decide +kernel)) (show PI _ _ _ (iList K _) from (pi_list (pe_callB (o_sortedDS rfl) (by rfl) (T.m_sorted) (by decide +kernel) (pa_cons (pv 2) pa_nil)))) (blkOk_by (N := N__law_right) (sc := (defScope s__law_right)) (by decide +kernel)) (fun _ _ _ _ _ => (pg_name (i := 4) nd rfl (by first | exact Or.inl rfl | exact Or.inr rfl))) (fun _ _ _ _ _ => pts_one (pt_chain (o_lt) (o_lt) pe_int (pe_callB (show CallR _ _ (rLenL K) from o_lenl) (by rfl) (T.m_len) (by decide +kernel) (pa_cons (pe_dget hu (pv 2) (pv 4) (fun _ _ => rfl)) pa_nil)) pe_int)) (fun _ _ _ _ _ => (pv 4)))
    (pss_cons (ps_for PassesOwn.never rfl (pi_range1 (by rfl) (T.m_range) (pa_cons (pe_op o_add pe_int (pe_c c__law_draw hr (by decide) (by rfl) (pa_cons (pv 0) (pa_cons pe_int pa_nil)))) pa_nil)) (pg_name (i := 6) nd rfl (by first | exact Or.inl rfl | exact Or.inr rfl))
    (pss_one (ps_set (i := 3) nd rfl (by first | exact Or.inl rfl | exact Or.inr rfl) (pe_op op_cat (pv 3) (pe_ifExp (pt_cmpR (show OpR _ _ (rNeD K) from op_neD hr.units) (pv 5) (pe_lst pa_nil) (nomark _)) (pe_dget hu (pv 2) (pe_c c__law_one_of hr (by decide) (by rfl) (pa_cons (pv 0) (pa_cons (pv 5) pa_nil))) (fun _ _ => rfl)) (pe_lst pa_nil))))))
    (pss_cons (ps_set (i := 3) nd rfl (by first | exact Or.inl rfl | exact Or.inr rfl) (pe_slice (show SlR _ (rSlL K) from sl_list) (pe_callB (o_sortedSet rfl) (by rfl) (T.m_sorted) (by decide +kernel) (pa_cons (pe_callTy (o_setI rfl) (by rfl) (T.m_set) (by decide +kernel) (pa_cons (pe_op op_cat (pv 3) (pe_lst (pa_cons (pe_c c__law_draw hr (by decide) (by rfl) (pa_cons (pv 0) (pa_cons (pv 1) pa_nil))) pa_nil))) pa_nil)) pa_nil)) po_none (po_some pe_int)))
    (pss_cons (ps_par (i := 8) (j := 9) (by rfl) nd rfl rfl (by decide) rfl rfl (pa_cons (pe_c c_shortest_minutes hr (by decide) (by rfl) (pa_cons (pv 1) (pa_cons (pv 3) pa_nil))) (pa_cons (pe_lc (own := [("word", 4)]) rfl nd (show PI _ _ _ (iList K _) from (pi_list (pe_callB (o_sortedDS rfl) (by rfl) (T.m_sorted) (by decide +kernel) (pa_cons (pv 2) pa_nil)))) (blkOk_by (N := N__law_right) (sc := (defScope s__law_right)) (by decide +kernel)) (fun _ _ _ _ _ => (pg_name (i := 4) nd rfl (by first | exact Or.inl rfl | exact Or.inr rfl))) (fun _ _ _ _ _ => pts_one (pt_cmpR (show OpR _ _ (rEqD K) from op_eqD hr.units) (pe_lc (own := [("minute", 7)]) rfl nd (show PI _ _ _ (iList K _) from (pi_list (pe_dget hu (pv 2) (pv 4) (fun _ _ => rfl)))) (blkOk_in (N := N__law_right) (by decide +kernel)) (fun _ _ _ _ _ => (pg_name (i := 7) nd rfl (by first | exact Or.inl rfl | exact Or.inr rfl))) (fun _ _ _ _ _ => pts_one (pt_cmpR (show OpR _ _ (rIn K true) from op_notIn_seq) (pv 7) (pv 3) (by rfl))) (fun _ _ _ _ _ => (pv 7))) (pe_lst pa_nil) (nomark _))) (fun _ _ _ _ _ => (pv 4))) pa_nil)) (by rfl))
    (pss_cons (ps_if (pt_not (pt_val (pe_c c__law_one_right hr (by decide) (by rfl) (pa_cons (pv 1) (pa_cons (pv 3) pa_nil)))))
    (pss_one (ps_ret pe_bl))
    pss_nil)
    (pss_cons (ps_for PassesOwn.never rfl (pi_range1 (by rfl) (T.m_range) (pa_cons pe_int pa_nil)) (pg_name (i := 6) nd rfl (by first | exact Or.inl rfl | exact Or.inr rfl))
    (pss_cons (ps_set (i := 10) nd rfl (by first | exact Or.inl rfl | exact Or.inr rfl) (pe_c c__law_shuffled hr (by decide) (by rfl) (pa_cons (pv 0) (pa_cons (pe_op op_cat (pe_split (pv 8) pe_str) (pe_lst (pa_cons (pe_c c__law_one_of hr (by decide) (by rfl) (pa_cons (pv 0) (pa_cons (pv 9) pa_nil))) pa_nil))) pa_nil))))
    (pss_one (ps_if (pt_cmpR (show OpR _ _ (rNeD K) from op_neD hr.units) (pe_c c_read_minutes hr (by decide) (by rfl) (pa_cons (pv 1) (pa_cons (pe_join pe_str (pv 10)) pa_nil))) (pv 3) (nomark _))
    (pss_one (ps_ret pe_bl))
    pss_nil))))
    (pss_one (ps_ret pe_bl))))))))), ?_⟩
  obtain ⟨F, a, hour, N, rfl, s, ps0, nm, hh, q⟩ := h
  refine (ev_tup2 (b := ([] : List Int)) (ev_call1 (pre := fun hour : Int => 2 ≤ hour ∧ hour ≤ 1000) (f := fun hour => Dct.mk (wordsOf hour (pcs hour))) (a := hour) hh (ev_var (a := hour) rfl rfl)) ev_lst0).go s fun vt F1 H1 g1 rt => g_pair g1.sub rt fun vw v3 rw1 r3 => ?_
  obtain ⟨pw, kw, rfl, ew, hw⟩ := rw1
  have hw : Paired (DRel F1) kw (wordsOf hour (pcs hour)) := hw
  have getw : ∀ {F' H' : Hp} {τ : L2.St} {i j : Nat} {c : Int × Int}, c ∈ pcs hour → Same F1 F' → Same F' H' → τ[i]? = some (some (.ref pw)) → τ[j]? = some (some (.str (wordOf c))) → Ev (tDGet (tVar i) (tVar j)) τ F' H' (toldOf hour c) := fun {F' H' τ i j c} hc s1 s2 h1 h2 =>
    ev_dget (kvs := kw) (ds := wordsOf hour (pcs hour)) (k := wordOf c) (evv h1) (.inl (s2 _ _ (s1 _ _ ew))) (drel_mono s1 hw) (told_at hc).1 (ev_var (a := wordOf c) h2 rfl)
  have allLen : (allWords hour).length ≤ sizeLine := by
    unfold allWords
    rw [sortW_len, List.length_map, sizeLine_eq]
    have := len_pcs hour hh
    omega
  have sorted : ∀ {F' H' : Hp} {τ : L2.St}, Same F1 F' → Same F' H' → τ[2]? = some (some (.ref pw)) → EvI (iList K (tCB rSortDS (tCons (tVar 2) tNil))) τ F' H' (allWords hour) := fun {F' H' τ} s1 s2 h2 =>
    ei_list (ev_sortDS (kvs := kw) (ks := (pcs hour).map wordOf) (evv h2) (.inl (s2 _ _ (s1 _ _ ew))) (by rw [drel_word hw, words_keys]) fun ys h1 h2 => sortW_is h1 h2)
  -- steps
  have hsteps : Ev (tLc (iList K (tCB rSortDS (tCons (tVar 2) tNil))) (gName 4) (tTest (tChain rLt rLt (tC (.int 1)) (tCB (rLenL K) (tCons (tDGet (tVar 2) (tVar 4)) tNil)) (tC (.int 7)))) (tVar 4) [4]) [some (.ref a), some (.int hour), some (.ref pw), some v3, none, none, none, none, none, none, none] F1 H1
      (((allWords hour).filter fun w => decide (1 < ((wordTold hour w).length : Int)) && decide (((wordTold hour w).length : Int) < 7)).map fun w => w) := by
    refine ev_filter (sorted (Same.refl _) g1.sub rfl) allLen (fun _ => rfl) fun j z hz F2 H2 y g2 ry => ?_
    obtain ⟨c, hc, rfl⟩ := mem_words.mp (List.mem_of_getElem? hz)
    have ry : y = V.str (wordOf c) := ry
    subst ry
    exact ⟨et_test (ev_chain rd_lt (fun _ => rd_lt) ev_i (Ev.is (ev_lenL (getw hc g2.fr g2.sub rfl rfl)) (by rw [(told_at hc).2])) fun _ => ev_i), fun _ => ev_var (a := wordOf c) rfl rfl⟩
  rw [List.map_id'] at hsteps
  refine st_asg g1.sub hsteps fun v5 F2 H2 g2 r5 => ?_
  generalize esteps : ((allWords hour).filter fun w => decide (1 < ((wordTold hour w).length : Int)) && decide (((wordTold hour w).length : Int) < 7)) = steps at r5
  have stepsOk : ∀ y ∈ steps, ∃ c ∈ pcs hour, y = wordOf c ∧ (toldOf hour c).length < 7 := fun y hy => by
    rw [← esteps] at hy
    obtain ⟨h1, h2⟩ := List.mem_filter.mp hy
    obtain ⟨c, hc, rfl⟩ := mem_words.mp h1
    rw [(told_at hc).2, Bool.and_eq_true, decide_eq_true_eq, decide_eq_true_eq] at h2
    exact ⟨c, hc, rfl, by omega⟩
  have stepsPrint : ∀ y ∈ steps, PyData.strOk y = true := fun y hy => by
    obtain ⟨c, hc, rfl, _⟩ := stepsOk y hy
    unfold PyData.strOk
    rw [Array.all_eq_true']
    intro x hx
    have := codes_print hc x (by show x ∈ (wordOf c).cps.toList; exact Array.mem_toList_iff.mpr hx)
    rw [decide_eq_true_eq]
    omega
  have stepsFew : steps.length ≤ 1002000 := by
    rw [← esteps]
    refine Nat.le_trans (List.length_filter_le _ _) ?_
    unfold allWords
    rw [sortW_len, List.length_map]
    exact len_pcs hour hh
  have stepsLen : steps.length ≤ sizeLine := by
    rw [← esteps]
    exact Nat.le_trans (List.length_filter_le _ _) allLen
  have ps2 := ps0.grow (g1.trans g2)
  have gw2 : Ga a F H F2 H2 := (g1.trans g2).wide
  have r32 : rep F2 v3 ([] : List Int) := Rep.mono g2.fr r3
  -- for turn in range(1 + draw)
  refine st_seqR ?_
  refine ⟨_, rfl, F2, a, 3, N, rfl, g2.sub, ps2, by omega, ⟨by decide, by decide⟩, fun d1 F3 H3 g3 p3 d0 d3 => ?_⟩
  refine ⟨1, d1, rfl, rfl, 1 + d1, rfl, by omega, by omega, ?_⟩
  have s23 : Same F2 F3 := g3.fr
  refine for_walk (F0 := F3) (xs := ups 0 (1 + d1).toNat) wlk_range g3.sub (fun i σ' F' H' => ∃ (vm : V) (ms : List Int) (y6 : Option V), σ' = [some (.ref a), some (.int hour), some (.ref pw), some vm, none, some v5, y6, none, none, none, none] ∧ Ga a F H F' H' ∧ Same F2 F' ∧ PS a (N + 1 + i) F' H' ∧ rep F' vm ms ∧ ms.length ≤ 6 * i ∧ ∀ m ∈ ms, 0 ≤ m ∧ m < hour) ?_ (fun i z hz σ1 F4 H4 s4 ⟨vm, ms, y6, eσ, gr, s24, p4, rm, ml, mb⟩ xv F5 H5 g5 rx => ?_) (fun σ1 F4 H4 s4 ⟨vm, ms, y6, eσ, gr, s24, p4, rm, ml, mb⟩ => ?_)
  · exact ⟨v3, [], none, rfl, gw2.trans g3, s23, p3, Rep.mono s23 r32, Nat.zero_le _, fun m h => absurd h (by simp)⟩
  · subst eσ
    have hi : i < 3 := by
      have := (ups_at hz).1
      omega
    have rm5 := Rep.mono g5.fr rm
    have r55 : rep F5 v5 steps := Rep.mono (s24.trans g5.fr) r5
    have p5 := p4.grow g5
    have gr5 : Ga a F H F5 H5 := gr.trans g5.wide
    refine ⟨vm, rfl, ?_⟩
    have test : EvT (tTest (tOp (rNeD K) (tVar 5) (tLst tNil))) [some (.ref a), some (.int hour), some (.ref pw), some vm, none, some v5, some xv, none, none, none, none] F5 H5 (!decide (steps = [])) := et_test (ev_neS0 stepsPrint (ev_var (a := steps) rfl r55) ev_lst0)
    refine test.go g5.sub fun F6 H6 g6 => ?_
    have rm6 := Rep.mono g6.fr rm5
    have gr6 : Ga a F H F6 H6 := gr5.trans g6.wide
    have p6 := p5.grow g6
    by_cases hne : steps = []
    · rw [if_neg (show ¬ (!decide (steps = [])) = true by simp [hne])]
      refine (ev_lst0 (α := Int)).go g6.sub fun v7 F7 H7 g7 r7 => ?_
      obtain ⟨pm, us, rfl, em, hm⟩ := Rep.mono g7.fr rm6
      obtain ⟨p7, us7, rfl, em7, hm7⟩ := r7
      cases hm7
      have elm := paired_ints hm
      subst elm
      refine ⟨pm, p7, _, _, rfl, rfl, g7.sub _ _ em, g7.sub _ _ em7, by rw [List.length_map, List.length_nil, sizeLine_eq]; omega, fun l nl => ?_⟩
      have gi := Grow.ice (M := fun _ => False) (o := .lst (ms.map V.int ++ [])) g7.sub nl
      refine ⟨_, g5.fr.trans (g6.fr.trans (g7.fr.trans gi.fr)), gi.sub, .ref l, ms, some xv, rfl, gr6.trans (g7.wide.trans gi.wide), s24.trans (g5.fr.trans (g6.fr.trans (g7.fr.trans gi.fr))), ((p6.grow g7).grow gi).up (by omega), rep_lst upd_same (by rw [List.append_nil]; exact ints_paired ms), by omega, mb⟩
    · rw [if_pos (show (!decide (steps = [])) = true by simp [hne])]
      obtain ⟨pb, us5, ev5, e5, hp5⟩ := Rep.mono g6.fr r55
      have eus := paired_strs hp5
      subst eus
      refine ⟨.ref pw, rfl, ⟨_, rfl, ⟨_, rfl, ?_⟩⟩⟩
      subst ev5
      refine ⟨F6, a, pb, _, N + 1 + i, rfl, g6.sub, p6, by omega, e5, by simpa using hne, ?_, fun rv F7 H7 g7 p7 hrv => ?_⟩
      · rw [List.length_map]
        omega
      · obtain ⟨y, hy, rfl⟩ := List.mem_map.mp hrv
        obtain ⟨c, hc, rfl, c7⟩ := stepsOk y hy
        have s27 : Same F2 F7 := s24.trans (g5.fr.trans (g6.fr.trans g7.fr))
        have s17 : Same F1 F7 := g2.fr.trans s27
        obtain ⟨wv, ewv, rwv⟩ := drel_some (k := wordOf c) (drel_mono s17 hw) (told_at hc).1
        refine ⟨pw, wv, rfl, .inl ⟨kw, KeyT.key (wordOf c), .inl (g7.sub _ _ (s17 _ _ ew)), rfl, ewv.symm⟩, ?_⟩
        obtain ⟨pm, us, rfl, em, hm⟩ := Rep.mono g7.fr rm6
        obtain ⟨pt, ust, rfl, et, ht⟩ := rwv
        have elm := paired_ints hm
        subst elm
        have elt := paired_ints ht
        subst elt
        refine ⟨pm, pt, _, _, rfl, rfl, g7.sub _ _ em, g7.sub _ _ et, by rw [List.length_map, List.length_map, sizeLine_eq]; omega, fun l nl => ?_⟩
        have gi := Grow.ice (M := fun _ => False) (o := .lst (ms.map V.int ++ (toldOf hour c).map V.int)) g7.sub nl
        refine ⟨_, g5.fr.trans (g6.fr.trans (g7.fr.trans gi.fr)), gi.sub, .ref l, ms ++ toldOf hour c, some xv, rfl, (gr6.trans g7).trans gi.wide, s27.trans gi.fr, (p7.grow gi).up (by omega), rep_lst upd_same (by rw [← List.map_append]; exact ints_paired _), by rw [List.length_append]; omega, fun m hm => ?_⟩
        rcases List.mem_append.mp hm with z | z
        · exact mb m z
        · exact told_lt hc z
  · subst eσ
    have hlen : (ups 0 (1 + d1).toNat).length ≤ 3 := by rw [ups_len]; omega
    have p4' : PS a (N + 4) F4 H4 := p4.up (by omega)
    have ml18 : ms.length ≤ 18 := by omega
    clear p4 ml
    refine st_seqR ?_
    refine ⟨vm, rfl, ⟨_, rfl, ⟨_, rfl, F4, a, hour, N + 4, rfl, s4, p4', by omega, ⟨by omega, by omega⟩, fun d F5 H5 g5 p5 dl dh => ?_⟩⟩⟩
    refine ⟨(by show 1 ≤ sizeLine; rw [sizeLine_eq]; decide), fun pl npl => ?_⟩
    obtain ⟨pm, um, rfl, em, hm⟩ := Rep.mono g5.fr rm
    have eum := paired_ints hm
    subst eum
    have g6 := Grow.ice (M := fun _ => False) (o := .lst [V.int d]) g5.sub npl
    refine ⟨pm, pl, _, _, rfl, rfl, g6.sub _ _ (g6.fr _ _ em), upd_same, by rw [List.length_map, sizeLine_eq]; simp; omega, fun pc npc => ?_⟩
    have g7 := Grow.ice (M := fun _ => False) (o := .lst (ms.map V.int ++ [V.int d])) g6.sub npc
    have inb : ∀ z ∈ ms ++ [d], 0 ≤ z ∧ z < hour := fun z hz => by
      rcases List.mem_append.mp hz with y | y
      · exact mb z y
      · rw [List.mem_singleton.mp y]; exact ⟨dl, dh⟩
    have nsl : (ms ++ [d]).length < 64 := by rw [List.length_append]; simp; omega
    refine tnil_run ?_
    refine setI_run (ns := ms ++ [d]) g7.sub (rep_lst upd_same (by have := ints_paired (F := upd (upd F5 pl (.lst [V.int d])) pc (.lst (ms.map V.int ++ [V.int d]))) (ms ++ [d]); rw [List.map_append] at this; exact this)) nsl fun pq cq nq lq => tnil_run ?_
    refine sortO_run (zs := (ups 0 hour.toNat).filter fun z => (ms ++ [d]).contains z) g7.sub nq lq nsl ((ups_sorted _ _).filter _) (fun z => ?_) fun u F8 H8 g8 r8 => ?_
    · rw [List.mem_filter, mem_ups, List.contains_iff_mem]
      refine ⟨fun h => h.2, fun h => ⟨?_, h⟩⟩
      have := inb z h
      omega
    have hz1 : ((ups 0 hour.toNat).filter fun z => (ms ++ [d]).contains z).Pairwise (· < ·) := (ups_sorted _ _).filter _
    have hz2 : ∀ z ∈ (ups 0 hour.toNat).filter fun z => (ms ++ [d]).contains z, 0 ≤ z ∧ z < hour := fun z hz => by
      have := (List.mem_filter.mp hz).1
      rw [mem_ups] at this
      omega
    have hz3 : ((ups 0 hour.toNat).filter fun z => (ms ++ [d]).contains z) ≠ [] := fun e => by
      have : d ∈ (ups 0 hour.toNat).filter fun z => (ms ++ [d]).contains z := List.mem_filter.mpr ⟨mem_ups.mpr (by omega), by simp⟩
      rw [e] at this
      cases this
    generalize ((ups 0 hour.toNat).filter fun z => (ms ++ [d]).contains z) = zs at r8 hz1 hz2 hz3
    obtain ⟨pz, uz, rfl, ez, hpz⟩ := r8
    have euz := paired_ints hpz
    subst euz
    refine ⟨8, rfl, pz, _, rfl, sq_of g8.sub ez, fun px npx => ?_⟩
    have g9 := Grow.ice (M := fun _ => False) (o := .lst (cutV (zs.map V.int) none (some 8))) g8.sub npx
    have gr9 : Ga a F H (upd F8 px (.lst (cutV (zs.map V.int) none (some 8)))) (upd H8 px (.lst (cutV (zs.map V.int) none (some 8)))) := ((gr.trans g5).trans ((g6.trans (g7.trans (g8.trans g9))).wide))
    have p9 : PS a (N + 5) (upd F8 px (.lst (cutV (zs.map V.int) none (some 8)))) (upd H8 px (.lst (cutV (zs.map V.int) none (some 8)))) := (p5.grow (g6.trans (g7.trans (g8.trans g9))))
    have s29 : Same F2 (upd F8 px (.lst (cutV (zs.map V.int) none (some 8)))) := s24.trans (g5.fr.trans (g6.fr.trans (g7.fr.trans (g8.fr.trans g9.fr))))
    have rmin : rep (upd F8 px (.lst (cutV (zs.map V.int) none (some 8)))) (.ref px) (zs.take 8) := by
      refine rep_lst upd_same ?_
      have e8 : cutV (zs.map V.int) none (some 8) = (zs.take 8).map V.int := by
        have := cut_to (zs.map V.int) 8
        rw [List.map_take]
        exact this
      rw [e8]
      exact ints_paired _
    have s9 := g9.sub
    change Same (upd F8 px (.lst (cutV (zs.map V.int) none (some 8)))) (upd H8 px (.lst (cutV (zs.map V.int) none (some 8)))) at s9
    generalize upd F8 px (.lst (cutV (zs.map V.int) none (some 8))) = F9 at gr9 p9 s29 rmin s9
    generalize upd H8 px (.lst (cutV (zs.map V.int) none (some 8))) = H9 at gr9 p9 s9
    have hok : OkShort hour (zs.take 8) := by
      refine ⟨⟨hh, hz1.sublist (List.take_sublist _ _), fun m hm => hz2 m (List.mem_of_mem_take hm)⟩, ?_⟩
      rw [List.length_take]
      omega
    have mne : zs.take 8 ≠ [] := fun e => by
      cases zs with
      | nil => exact hz3 rfl
      | cons x r => simp at e
    generalize zs.take 8 = mins at rmin hok mne
    obtain ⟨pcsT, hp, es, rs, ls, hne⟩ := short_text hok
    have hne := hne mne
    have l64 := line_len hok
    obtain ⟨ll1, ll2⟩ := line_le hh.2 hp
    have s19 : Same F1 F9 := g2.fr.trans s29
    -- text, more
    have hmore : Ev (tLc (iList K (tCB rSortDS (tCons (tVar 2) tNil))) (gName 4) (tTest (tOp (rEqD K) (tLc (iList K (tDGet (tVar 2) (tVar 4))) (gName 7) (tTest (tOp (rIn K true) (tVar 7) (tVar 3))) (tVar 7) [7]) (tLst tNil))) (tVar 4) [4]) [some (.ref a), some (.int hour), some (.ref pw), some (.ref px), none, some v5, y6, none, none, none, none] F9 H9
        (((allWords hour).filter fun w => decide ((((wordTold hour w).filter fun m => !mins.contains m).map fun m => m) = [])).map fun w => w) := by
      refine ev_filter (sorted s19 s9 rfl) allLen (fun _ => rfl) fun j z hz F10 H10 y g10 ry => ?_
      obtain ⟨c, hc, rfl⟩ := mem_words.mp (List.mem_of_getElem? hz)
      have ry : y = V.str (wordOf c) := ry
      subst ry
      have tl := told_len hc hh.2
      refine ⟨et_test (ev_eqD (α := List Int) (by decide) (ev_filter (p := fun m => !mins.contains m) (f := fun m => m) (ei_list (Ev.is (getw hc (s19.trans g10.fr) g10.sub rfl rfl) (told_at hc).2.symm)) ?_ (fun _ => rfl) fun j z hz F11 H11 y g11 ry => ⟨et_test (ev_notinI (ev_var rfl ry) (ev_var (a := mins) rfl (Rep.mono (g10.fr.trans g11.fr) rmin))), fun _ => ev_var rfl ry⟩) ev_lst0), fun _ => ev_var (a := wordOf c) rfl rfl⟩
      rw [(told_at hc).2, sizeLine_eq]
      omega
    rw [List.map_id'] at hmore
    have moreOk : ∀ y ∈ (allWords hour).filter fun w => decide ((((wordTold hour w).filter fun m => !mins.contains m).map fun m => m) = []), ∃ c ∈ pcs hour, y = wordOf c ∧ ∀ m ∈ toldOf hour c, m ∈ mins := fun y hy => by
      obtain ⟨h1, h2⟩ := List.mem_filter.mp hy
      obtain ⟨c, hc, rfl⟩ := mem_words.mp h1
      refine ⟨c, hc, rfl, fun m hm => ?_⟩
      have h2 := of_decide_eq_true h2
      rw [List.map_id', List.filter_eq_nil_iff, (told_at hc).2] at h2
      have := h2 m hm
      simpa using this
    have moreNe : ((allWords hour).filter fun w => decide ((((wordTold hour w).filter fun m => !mins.contains m).map fun m => m) = [])) ≠ [] := fun e => by
      obtain ⟨m, hm⟩ := List.exists_mem_of_ne_nil _ mne
      have hb := hok.1.2.2 m hm
      have hc : (m, (0 : Int)) ∈ pcs hour := mem_pcs.mpr (.inl ⟨rfl, hb.1, hb.2⟩)
      have : wordOf (m, 0) ∈ (allWords hour).filter fun w => decide ((((wordTold hour w).filter fun m => !mins.contains m).map fun m => m) = []) := by
        refine List.mem_filter.mpr ⟨mem_words.mpr ⟨_, hc, rfl⟩, ?_⟩
        rw [(told_at hc).2, List.map_id', decide_eq_true_eq, List.filter_eq_nil_iff]
        intro x hx
        have : x = m := by simpa [toldOf] using hx
        rw [this]
        simpa using hm
      rw [e] at this
      cases this
    have moreFew : ((allWords hour).filter fun w => decide ((((wordTold hour w).filter fun m => !mins.contains m).map fun m => m) = [])).length ≤ 1002000 := by
      refine Nat.le_trans (List.length_filter_le _ _) ?_
      unfold allWords
      rw [sortW_len, List.length_map]
      exact len_pcs hour hh
    generalize ((allWords hour).filter fun w => decide ((((wordTold hour w).filter fun m => !mins.contains m).map fun m => m) = [])) = more at hmore moreOk moreNe moreFew
    dsimp only
    refine st_seqR ?_
    refine st_par s9 (ev_call2 (pre := OkShort) (f := shortM) (a := hour) (b := mins) hok (ev_var (a := hour) rfl rfl) (ev_var (a := mins) rfl rmin)) hmore fun vtx vmo F10 H10 g10 rtx rmo => ?_
    have rmin10 := Rep.mono g10.fr rmin
    refine st_if (b := false) g10.sub (et_not (et_B (ev_call2 (pre := OkShort) (f := fun _ _ => true) (a := hour) (b := mins) hok (ev_var (a := hour) rfl rfl) (ev_var (a := mins) rfl rmin10)))) (fun z => nomatch z) fun _ F11 H11 g11 => ?_
    unfold tNext
    dsimp only
    have gr11 : Ga a F H F11 H11 := gr9.trans (g10.trans g11).wide
    have p11 := p9.grow (g10.trans g11)
    have rmin11 := Rep.mono g11.fr rmin10
    have rtx11 := Rep.mono g11.fr rtx
    have rmo11 := Rep.mono g11.fr rmo
    refine st_for (F := F11) (H := H11) (xs := ups 0 (4 : Int).toNat) g11.sub (ei_range1 (i := 4) (by decide) ev_i) (fun i σ' F' H' => ∃ (y6 y10 : Option V), σ' = [some (.ref a), some (.int hour), some (.ref pw), some (.ref px), none, some v5, y6, none, some vtx, some vmo, y10] ∧ Ga a F H F' H' ∧ Same F11 F' ∧ PS a (N + 5 + 100 * i) F' H') (fun F12 H12 g12 => ?_) (fun i z hz σ1 F12 H12 s12 ⟨y6, y10, eσ, gr12, s1112, p12⟩ xv F13 H13 g13 rx => ?_) (fun σ1 F12 H12 s12 ⟨y6, y10, eσ, gr12, s1112, p12⟩ => ?_)
    · exact ⟨_, _, rfl, gr11.trans g12.wide, g12.fr, p11.grow g12⟩
    · subst eσ
      have hi : i < 4 := (ups_at hz).1
      have s1113 : Same F11 F13 := s1112.trans g13.fr
      have txt : Txt.split (shortM hour mins) (Str.ofString " ") = pcsT.map wordOf := by rw [es]; exact text_split hp hne
      have lenS : (shortM hour mins).length = (lineOf pcsT).length := by rw [es]; exact S_len _
      refine st_seqR ?_
      refine ⟨_, rfl, ?_⟩
      refine (Ev.is (ev_split (x := shortM hour mins) (z := Str.ofString " ") (by decide +kernel) (by rw [lenS, sizeLine_eq]; omega) (ev_var rfl (Rep.mono s1113 rtx11)) ev_s) txt).go g13.sub fun vs F14 H14 g14 rs14 => ?_
      obtain ⟨pmo, umo, emo, emo2, hmo⟩ := Rep.mono (s1113.trans g14.fr) rmo11
      have eumo := paired_strs hmo
      subst eumo
      subst emo
      refine ⟨_, rfl, ⟨_, rfl, F14, a, pmo, _, N + 5 + 100 * i, rfl, g14.sub, p12.grow (g13.trans g14), by omega, emo2, by simpa using moreNe, by rw [List.length_map]; omega, fun rv F15 H15 g15 p15 hrv => ?_⟩⟩
      obtain ⟨y, hy, rfl⟩ := List.mem_map.mp hrv
      obtain ⟨c, hc, rfl, hcm⟩ := moreOk y hy
      refine ⟨(by show 1 ≤ sizeLine; rw [sizeLine_eq]; decide), fun pl npl => ?_⟩
      obtain ⟨psp, usp, rfl, esp, hsp⟩ := Rep.mono g15.fr rs14
      have eusp := paired_strs hsp
      subst eusp
      have g16 := Grow.ice (M := fun _ => False) (o := .lst [V.str (wordOf c)]) g15.sub npl
      refine ⟨psp, pl, _, _, rfl, rfl, g16.sub _ _ (g16.fr _ _ esp), upd_same, by rw [List.length_map, List.length_map, sizeLine_eq]; simp; omega, fun pc npc => ?_⟩
      have g17 := Grow.ice (M := fun _ => False) (o := .lst ((pcsT.map wordOf).map V.str ++ [V.str (wordOf c)])) g16.sub npc
      have zl : (pcsT.map wordOf ++ [wordOf c]).length = pcsT.length + 1 := by rw [List.length_append, List.length_map]; rfl
      refine ⟨_, a, .ref pc, pcsT.map wordOf ++ [wordOf c], N + 5 + 100 * i + 1, rfl, g17.sub, p15.grow (g16.trans g17), by rw [zl]; omega, rep_lst upd_same (by have := strs_paired (F := upd (upd F15 pl (.lst [V.str (wordOf c)])) pc (.lst ((pcsT.map wordOf).map V.str ++ [V.str (wordOf c)]))) (pcsT.map wordOf ++ [wordOf c]); rw [List.map_append] at this; exact this), by rw [zl]; omega, fun vw ys F18 H18 g18 p18 hperm rys => ?_⟩
      obtain ⟨ps', hp', eys, hr', hl'⟩ := any_order hok.1 hp rs hc hcm hperm
      have s1118 : Same F11 F18 := s1113.trans (g14.fr.trans (g15.fr.trans (g16.fr.trans (g17.fr.trans g18.fr))))
      have gr18 : Ga a F H F18 H18 := ((gr12.trans (g13.trans g14).wide).trans g15).trans ((g16.trans g17).wide.trans g18)
      obtain ⟨ll3, ll4⟩ := line_le hh.2 hp'
      have okT : OkText hour (Txt.join (Str.ofString " ") ys) := by
        refine ⟨hh, ?_, ps', hp', by rw [eys, text_join]⟩
        rw [eys, text_join]
        show (S (lineOf ps')).length ≤ _
        rw [S_len]
        omega
      have rdT : readMin hour (Txt.join (Str.ofString " ") ys) = mins := by rw [eys, text_join, read_text hp', hr']
      refine st_if (b := false) g18.sub (EvT.is (et_test (ev_neD (α := List Int) (by decide) (ev_call2 (pre := OkText) (f := readMin) (a := hour) (b := Txt.join (Str.ofString " ") ys) okT (ev_var (a := hour) rfl rfl) (ev_join ?_ ev_s (ev_var rfl rys))) (ev_var (a := mins) rfl (Rep.mono s1118 rmin11)))) (by rw [rdT]; simp)) (fun z => nomatch z) fun _ F19 H19 g19 => ?_
      · have wl : ∀ y ∈ ys, y.length ≤ 13 := fun y hy => by
          rw [eys] at hy
          obtain ⟨p, hpp, rfl⟩ := List.mem_map.mp hy
          have := codes_len hh.2 (hp' p hpp)
          have e : (codes p).length = (wordOf p).length := Array.length_toList
          omega
        have sum : ∀ l : List Str, (∀ y ∈ l, y.length ≤ 13) → (l.map (·.length)).sum ≤ 13 * l.length := fun l => by
          induction l with
          | nil => intro _; simp
          | cons x r ih =>
            intro h
            have := ih fun y hy => h y (List.mem_cons_of_mem _ hy)
            have := h x (List.mem_cons_self ..)
            rw [List.map_cons, List.sum_cons, List.length_cons]
            omega
        have sm := sum ys wl
        have b : (Str.ofString " ").length = 1 := by decide +kernel
        have yl : ys.length = pcsT.length + 1 := by rw [hperm.length_eq, zl]
        rw [b, yl]
        omega
      · refine ⟨F19, g13.fr.trans (g14.fr.trans (g15.fr.trans (g16.fr.trans (g17.fr.trans (g18.fr.trans g19.fr))))), g19.sub, _, _, rfl, gr18.trans g19.wide, s1118.trans g19.fr, (p18.grow g19).up (by rw [zl]; omega)⟩
    · subst eσ
      have h4 : (ups 0 (4 : Int).toNat).length = 4 := by rw [ups_len]; rfl
      rw [h4] at p12
      dsimp only
      refine st_ret (a := true) s12 ev_b fun u F13 H13 g13 r13 => ?_
      have r13 : u = V.bl true := r13
      subst r13
      exact q F13 H13 (gr12.trans g13.wide) ((p12.grow g13).up (by omega))
end
end K90
set_option maxHeartbeats 4000000
namespace Ly
open PySem PySem.Spec PyProof.Rows L2 SX
open Rep
instance : Rep V := ⟨fun _ v d => v = d, fun _ h => h⟩
theorem paired_raw {F : Hp} : ∀ vs : List V, Paired (rep F) vs vs
  | [] => .nil
  | v :: r => .cons rfl (paired_raw r)
/-- a list of values as they stand -/
theorem wlk_raw {K : PySem.W.Frag} {F : Hp} {b : Addr} {vs : List V} (e : F b = some (.lst vs)) : Wlk (Itl K b) F vs := by
  have sq : ∀ {F' H' : Hp}, Same F F' → Same F' H' → SqL K H' b vs := fun s1 s2 => .inl (.inl (s2 _ _ (s1 _ _ e)))
  refine ⟨fun F' H' s1 s2 i hi => ⟨vs, vs[i], sq s1 s2, List.getElem?_eq_getElem hi⟩, fun F' H' s1 s2 => ⟨vs, sq s1 s2, Nat.le_refl _⟩, fun F' H' s1 s2 i z hz x H'' y => ?_⟩
  obtain ⟨eH, y⟩ := y
  subst eH
  have := y vs (sq s1 s2)
  rw [hz] at this
  cases this
  exact ⟨F', Grow.refl s2, rfl⟩
def AllPS (vs : List V) (N : Nat) (F H : Hp) : Prop := ∀ v ∈ vs, ∃ x, v = .ref x ∧ PS x N F H
theorem AllPS.grow {vs : List V} {N : Nat} {F H F1 H1 : Hp} (p : AllPS vs N F H) (g : Gr F H F1 H1) : AllPS vs N F1 H1 := fun v hv => by
  obtain ⟨x, e, q⟩ := p v hv
  exact ⟨x, e, q.grow g⟩
theorem AllPS.beside {vs : List V} {N M : Nat} {a : Addr} {F H F1 H1 : Hp} (p : AllPS vs N F H) (g : Ga a F H F1 H1) (pa : PS a M F1 H1) (h : N ≤ M) : AllPS vs M F1 H1 := fun v hv => by
  obtain ⟨x, e, q⟩ := p v hv
  exact ⟨x, e, q.beside g pa h⟩
theorem AllPS.up {vs : List V} {N M : Nat} {F H : Hp} (p : AllPS vs N F H) (h : N ≤ M) : AllPS vs M F H := fun v hv => by
  obtain ⟨x, e, q⟩ := p v hv
  exact ⟨x, e, q.up h⟩
end Ly
namespace K90
open PySem PySem.Spec PyProof.Rows L2 SX Ly
open Rep
def spLaw (K : PySem.W.Frag) : Sp := fun vs H Q _ => ∃ (a : Addr) (ns : List Int), vs = [.ref a] ∧ SqL K H a (ns.map V.int) ∧ ns.length ≤ 63 ∧ Only H ∧ ∀ H', Q (.bl true) H'
theorem spLaw_len {K : PySem.W.Frag} (vs : List V) (H : Hp) (Q : VK) (E : XK) (h : spLaw K vs H Q E) : vs.length = 1 := by obtain ⟨_, _, rfl, _⟩ := h; rfl
section
variable {P : Program} {w : World} {K : PySem.W.Frag} {mg : Str → Option Value} {base : Heap}
theorem bd_law (T : Tx K mg) (cdv : Value) (A : Around) (outer : List Env) (s : Shared) (H : Hp) (vs : List V) (Q : VK) (E : XK) (hr : Room 7 (A.deeper (envOfC d_law.qual d_law.scope s.heap.objs.size (He.fAd K d_law.at_) cdv)))
    (h : spLaw K vs H Q E) : ∃ t, PSs (cxOf CX0 P w K mg base N_law d_law.qual d_law.scope (He.fAd K d_law.at_) cdv A outer s H E) d_law.body t ∧ t { nx := fun _ H' => Q .non H', rt := Q } (start N_law vs) H := by
  have c__law_all_right := ok__law_all_right (P := P) (w := w) (base := base) T
  have c__law_one_of := ok__law_one_of (P := P) (w := w) (base := base) T
  have c__law_draw := ok__law_draw (P := P) (w := w) (base := base) T
  have c__law_purses := ok__law_purses (P := P) (w := w) (base := base) T
  have c__law_right := ok__law_right (P := P) (w := w) (base := base) T
  have nd := sc_law.nd
  have hu := hu_of hr
  refine ⟨_, PSs.nox (pss_cons (ps_for PassesOwn.never rfl (pi_range2 (by rfl) (T.m_range) (pa_cons pe_int (pa_cons pe_int pa_nil))) (pg_name (i := 1) nd rfl (by first | exact Or.inl rfl | exact Or.inr rfl))
    (pss_one (ps_if (pt_not (pt_val (pe_c c__law_all_right hr (by decide) (by rfl) (pa_cons (pv 1) pa_nil))))
    (pss_one (ps_ret pe_bl))
    pss_nil)))
    (pss_cons (ps_for PassesOwn.never rfl (show PI _ _ _ (iList K _) from (pi_list (pe_c c__law_purses hr (by decide) (by rfl) (pa_cons (pv 0) (pa_cons pe_int pa_nil))))) (pg_name (i := 2) nd rfl (by first | exact Or.inl rfl | exact Or.inr rfl))
    (pss_one (ps_for PassesOwn.never rfl (pi_range1 (by rfl) (T.m_range) (pa_cons pe_int pa_nil)) (pg_name (i := 3) nd rfl (by first | exact Or.inl rfl | exact Or.inr rfl))
    (pss_one (ps_if (pt_not (pt_val (pe_c c__law_right hr (by decide) (by rfl) (pa_cons (pv 2) (pa_cons (pe_c c__law_one_of hr (by decide) (by rfl) (pa_cons (pv 2) (pa_cons (pe_lst (pa_cons pe_int (pa_cons pe_int (pa_cons pe_int (pa_cons pe_int (pa_cons pe_int (pa_cons pe_int (pa_cons pe_int (pa_cons pe_int (pa_cons (pe_op o_add pe_int (pe_c c__law_draw hr (by decide) (by rfl) (pa_cons (pv 2) (pa_cons pe_int pa_nil)))) pa_nil)))))))))) pa_nil))) pa_nil)))))
    (pss_one (ps_ret pe_bl))
    pss_nil)))))
    (pss_one (ps_ret pe_bl)))), ?_⟩
  obtain ⟨a, ns, rfl, hsq, hl, _, q⟩ := h
  have s0 : Same (fun _ => none : Hp) H := fun _ _ e => by cases e
  have sq0 : ∀ F' H', Gr (fun _ => none) H F' H' → SqL K H' a (ns.map V.int) := fun F' H' g => by
    rcases hsq with (e | ⟨o, e⟩) | e
    · exact .inl (.inl (g.at e))
    · exact .inl (.inr ⟨o, g.at e⟩)
    · exact .inr e
  refine st_for (xs := ups 2 (7 - 2 : Int).toNat) s0 (ei_range2 (by decide) (by decide) ev_i ev_i) (fun i σ' F' H' => ∃ y1, σ' = [some (.ref a), y1, none, none] ∧ Gr (fun _ => none) H F' H') (fun F1 H1 g1 => ⟨none, rfl, g1⟩) (fun i z hz σ1 F1 H1 s1 ⟨y1, eσ, gr⟩ xv F2 H2 g2 rx => ?_) (fun σ1 F1 H1 s1 ⟨y1, eσ, gr⟩ => ?_)
  · subst eσ
    have rx : xv = V.int z := rx
    subst rx
    have hz2 := ups_at hz
    have e5 : (7 - 2 : Int).toNat = 5 := rfl
    refine st_if (b := false) g2.sub (et_not (et_B (ev_call1 (pre := fun hour : Int => 2 ≤ hour ∧ hour ≤ 10) (f := fun _ => true) (a := z) (by omega) (ev_var (a := z) rfl rfl)))) (fun z => nomatch z) fun _ F3 H3 g3 => ?_
    exact ⟨F3, g2.fr.trans g3.fr, g3.sub, _, rfl, gr.trans (g2.trans g3)⟩
  · subst eσ
    dsimp only
    refine st_seqR ?_
    refine ⟨_, rfl, F1, a, ns, 3, rfl, s1, fun F' H' g => sq0 F' H' (gr.trans g), by decide, fun r F2 H2 g2 rr => ?_⟩
    obtain ⟨b, us, rfl, eb, hp⟩ := rr
    -- the purses come alive
    have refs : ∀ v ∈ us, ∃ x, v = .ref x ∧ x ≠ b ∧ ∃ x0 x1 x2 x3, H2 x = some (.lst [.int x0, .int x1, .int x2, .int x3]) ∧ PB 0 x0 x1 x2 x3 := fun v hv => by
      obtain ⟨i, hi⟩ := List.mem_iff_getElem?.mp hv
      obtain ⟨l, hl2, ⟨x, ws, rfl, ex, hw⟩⟩ := paired_at hp hi
      have elw := paired_ints hw
      subst elw
      unfold pursesOf at hl2
      rw [List.getElem?_map, Option.map_eq_some_iff] at hl2
      obtain ⟨k, hk, rfl⟩ := hl2
      have hk2 := ups_at hk
      have kb : 0 ≤ k ∧ k ≤ 100000 := by
        have := hk2.1
        have c3 : (if (if (ns.length : Int) < 3 then (ns.length : Int) else 3) > 1 then (if (ns.length : Int) < 3 then (ns.length : Int) else 3) else 1).toNat ≤ 3 := by split <;> split <;> omega
        omega
      obtain ⟨x0, x1, x2, x3, ep, pb⟩ := purse_pb ns kb
      rw [ep] at ex
      refine ⟨x, rfl, fun e => ?_, x0, x1, x2, x3, g2.sub _ _ ex, pb⟩
      subst e
      rw [eb] at ex
      have e2 := HO.lst.inj (Option.some.inj ex)
      rw [e2] at hv
      simp at hv
    have sF : Same (fun x => if x = b then some (HO.lst us) else none : Hp) H2 := fun x o e => by
      have e : (if x = b then some (HO.lst us) else none) = some o := e
      by_cases z : x = b
      · rw [if_pos z] at e
        rw [z, ← e]
        exact g2.sub _ _ eb
      · rw [if_neg z] at e
        cases e
    have aps : AllPS us 0 (fun x => if x = b then some (HO.lst us) else none : Hp) H2 := fun v hv => by
      obtain ⟨x, e, ne, x0, x1, x2, x3, e2, pb⟩ := refs v hv
      exact ⟨x, e, x0, x1, x2, x3, e2, if_neg ne, pb⟩
    have usl : us.length ≤ 3 := by
      rw [paired_len hp]
      unfold pursesOf
      rw [List.length_map, ups_len]
      split <;> split <;> omega
    refine ⟨b, rfl, ⟨us, .inl (.inl (g2.sub _ _ eb))⟩, ?_⟩
    have mm : most = 2 ^ 40 := rfl
    refine for_walk (wlk_raw (if_pos rfl)) sF (fun i σ' F' H' => ∃ (y1 y2 y3 : Option V), σ' = [some (.ref a), y1, y2, y3] ∧ AllPS us (3000 * i) F' H') ⟨_, _, _, rfl, aps⟩ (fun i z hz σ1 F3 H3 s3 ⟨y1, y2, y3, eσ, ap⟩ xv F4 H4 g4 rx => ?_) (fun σ1 F3 H3 s3 ⟨y1, y2, y3, eσ, ap⟩ => ?_)
    · subst eσ
      have rx : xv = z := rx
      subst rx
      have hi : i < 3 := Nat.lt_of_lt_of_le (List.getElem?_eq_some_iff.mp hz).1 usl
      have hm := List.mem_of_getElem? hz
      obtain ⟨x, ex, _⟩ := ap xv hm
      subst ex
      refine st_for (xs := ups 0 (2 : Int).toNat) g4.sub (ei_range1 (i := 2) (by decide) ev_i) (fun j σ' F' H' => ∃ (y3 : Option V), σ' = [some (.ref a), y1, some (.ref x), y3] ∧ Same F3 F' ∧ AllPS us (3000 * i + 1002 * j) F' H') (fun F5 H5 g5 => ⟨_, rfl, g4.fr.trans g5.fr, ap.grow (g4.trans g5)⟩) (fun j z2 hz2 σ2 F5 H5 s5 ⟨y3, eσ, s35, ap5⟩ xv2 F6 H6 g6 rx2 => ?_) (fun σ2 F5 H5 s5 ⟨y3, eσ, s35, ap5⟩ => ?_)
      · subst eσ
        have hj : j < 2 := (ups_at hz2).1
        have ap6 := ap5.grow g6
        obtain ⟨x', ex', ps6⟩ := ap6 _ hm
        cases ex'
        refine ⟨_, rfl, ⟨_, rfl, ⟨_, rfl, F6, x, 50, 3000 * i + 1002 * j, rfl, g6.sub, ps6, by omega, ⟨by decide, by decide⟩, fun d F7 H7 g7 p7 dl dh => ?_⟩⟩⟩
        refine ⟨7, d, rfl, rfl, (by show 9 ≤ sizeLine; rw [sizeLine_eq]; decide), fun pl npl => ?_⟩
        have ap7 := ap6.beside g7 p7 (by omega)
        have g8 := Grow.ice (M := fun _ => False) (o := .lst [V.int 12, .int 20, .int 24, .int 30, .int 36, .int 60, .int 90, .int 120, .int (7 + d)]) g7.sub npl
        refine ⟨_, x, pl, _, 3000 * i + 1002 * j + 1, rfl, g8.sub, p7.grow g8, by omega, upd_same, by simp, (by show 9 ≤ 2000000; decide), fun r F9 H9 g9 p9 hr9 => ?_⟩
        have ap9 := (ap7.grow g8).beside g9 p9 (by omega)
        obtain ⟨hh, eh, hb⟩ : ∃ hh : Int, r = .int hh ∧ 2 ≤ hh ∧ hh ≤ 1000 := by
          simp at hr9
          rcases hr9 with e | e | e | e | e | e | e | e | e <;> exact ⟨_, e, by omega, by omega⟩
        subst eh
        refine ⟨F9, x, hh, 3000 * i + 1002 * j + 1 + 1, rfl, g9.sub, p9, by omega, hb, fun F10 H10 g10 p10 => ?_⟩
        refine ⟨true, rfl, ?_⟩
        have ap10 := ap9.beside g10 p10 (by omega)
        exact ⟨F10, g6.fr.trans (g7.fr.trans (g8.fr.trans (g9.fr.trans g10.fr))), g10.sub, _, rfl, s35.trans (g6.fr.trans (g7.fr.trans (g8.fr.trans (g9.fr.trans g10.fr)))), ap10.up (by omega)⟩
      · subst eσ
        have h2 : (ups 0 (2 : Int).toNat).length = 2 := by rw [ups_len]; rfl
        rw [h2] at ap5
        exact ⟨F5, s35, s5, _, _, _, rfl, ap5.up (by omega)⟩
    · subst eσ
      exact q H3
end
end K90
set_option maxHeartbeats 0
namespace K90
open PySem PySem.Spec PyProof.Rows L2 SX Ly
abbrev R : PySem.W.OpenRow := PySem.W.OpenLaw.row PySem.Challenge.rw_sameminute_k90_whole_more_minutes_told_s
abbrev hk : PySem.W.Hook := He.hookD 4 fa fn
def ob (s : PySem.W.SharedT) : He.AlD := He.obsDG 4 fa fn (HandSHeadRun.getT s)
theorem ob_eq (s : PySem.W.SharedT) : ob s = hk.obs s.abs := He.obsDG_eq (HandSHeadRun.getT_eq s)
theorem run (w : World) : HandSHeadRun.RunEq R (PySem.W.view R.prog [40]) hk ob 4000 (([("is_whole" : PySem.Str), ("is_count" : PySem.Str), ("check_hour" : PySem.Str), ("told_count" : PySem.Str), ("steps_by" : PySem.Str), ("words_by" : PySem.Str), ("piece_told" : PySem.Str), ("can_begin" : PySem.Str), ("check_minute_text" : PySem.Str), ("read_minutes" : PySem.Str), ("check_minutes_told" : PySem.Str), ("plain_minutes" : PySem.Str), ("useful_pieces" : PySem.Str), ("bits_of" : PySem.Str), ("cheapest_covers" : PySem.Str), ("shortest_minutes" : PySem.Str), ("first_cover" : PySem.Str), ("_law_purse" : PySem.Str), ("_law_mixed" : PySem.Str), ("_law_draw" : PySem.Str), ("_law_purses" : PySem.Str), ("_law_one_of" : PySem.Str), ("_law_shuffled" : PySem.Str), ("_law_pieces" : PySem.Str), ("_law_shortest" : PySem.Str), ("_law_one_right" : PySem.Str), ("_law_all_right" : PySem.Str), ("_law_right" : PySem.Str), ("MinuteError" : PySem.Str), ("InvalidHour" : PySem.Str), ("InvalidMinutes" : PySem.Str), ("InvalidText" : PySem.Str), ("Unread" : PySem.Str)] : List PySem.Str)) w := by
  intro os
  kernel_rfl
end K90
set_option maxHeartbeats 0
namespace K90
open PySem PySem.Spec PyProof.Rows L2 SX Ly
/-! ### the end -/
theorem facts {P : Program} {w : World} {K : PySem.W.Frag} {h : Heap} {mg : Str → Option Value} {f : Addr} (X : K.In h) (G : h.Ns mainGlobals mg) (hfa : mg ("law" : Str) = some (.ref f)) (c : He.SaysD fa fn K) :
    ∃ fd : FuncData, (∀ (s : Shared) (v : Value), BindsTo s fd ⟨[v], []⟩ [("script", v)]) ∧ ∀ base : Heap, K.In base → base.Ns mainGlobals mg → FnOk P w K mg base CX0 8 f fd ["script"] (spLaw K) := by
  have T : Tx K mg := ⟨h, X, G, c⟩
  obtain ⟨fd, F⟩ := T.t_law.fd
  have e := hfa.symm.trans T.t_law.mg
  cases e
  have b := FunD.bindsA (ps := ["script"]) F fun _ _ _ _ _ _ us hl => match us, hl with | [_], _ => rfl
  refine ⟨fd, fun s v => b s [v] rfl, fun base _ _ => ?_⟩
  exact F.ok sc_law spLaw_len fun cdv A outer s H vs Q E hr h => bd_law (P := P) (w := w) (base := base) T cdv A outer s H vs Q E hr h
end K90
open PySem PySem.W PySem.Calls PyProof.Rows
theorem PySem.Challenge.cw_sameminute_k90_whole_more_minutes_told_s_holds : PySem.Challenge.rw_sameminute_k90_whole_more_minutes_told_s.Holds := by
  w_on; o_law
  refine HandSHeadRun.head_any (r := OpenLaw.row PySem.Challenge.rw_sameminute_k90_whole_more_minutes_told_s) (q := view (OpenLaw.row PySem.Challenge.rw_sameminute_k90_whole_more_minutes_told_s).prog [40]) (H := K90.hk) (ob := K90.ob) (M := 4000) (loose := ([("is_whole" : PySem.Str), ("is_count" : PySem.Str), ("check_hour" : PySem.Str), ("told_count" : PySem.Str), ("steps_by" : PySem.Str), ("words_by" : PySem.Str), ("piece_told" : PySem.Str), ("can_begin" : PySem.Str), ("check_minute_text" : PySem.Str), ("read_minutes" : PySem.Str), ("check_minutes_told" : PySem.Str), ("plain_minutes" : PySem.Str), ("useful_pieces" : PySem.Str), ("bits_of" : PySem.Str), ("cheapest_covers" : PySem.Str), ("shortest_minutes" : PySem.Str), ("first_cover" : PySem.Str), ("_law_purse" : PySem.Str), ("_law_mixed" : PySem.Str), ("_law_draw" : PySem.Str), ("_law_purses" : PySem.Str), ("_law_one_of" : PySem.Str), ("_law_shuffled" : PySem.Str), ("_law_pieces" : PySem.Str), ("_law_shortest" : PySem.Str), ("_law_one_right" : PySem.Str), ("_law_all_right" : PySem.Str), ("_law_right" : PySem.Str), ("MinuteError" : PySem.Str), ("InvalidHour" : PySem.Str), ("InvalidMinutes" : PySem.Str), ("InvalidText" : PySem.Str), ("Unread" : PySem.Str)] : List PySem.Str)) (d := HandSHeadRun.topDef (OpenLaw.row PySem.Challenge.rw_sameminute_k90_whole_more_minutes_told_s).prog 40) (kwd := []) K90.ob_eq
    (by kernel_rfl) (fun s => by kernel_rfl) K90.run (by kernel_rfl) (by kernel_rfl) (by kernel_rfl) (by rfl) (by first | assumption | decide +kernel) (by decide +kernel) ⟨rfl, rfl, rfl, rfl, rfl, by decide +kernel⟩ ?hw ?hc
  case hw => w_witness2
  case hc =>
    refine L2.walk_ofE (l := PySem.Challenge.rw_sameminute_k90_whole_more_minutes_told_s) (n := 63) (k := 8) (x := "script") (CX := L2.CX0) rfl (by decide) (by kernel_rfl) ⟨rfl, by decide, by decide⟩ ?F (fun _ _ _ _ z => z)
    intro w mg fa h Y G hmg0
    obtain ⟨K, KX, c⟩ := Y
    have hmg : mg ("law" : PySem.Str) = some (.ref fa) := by
      have e : (HandSHeadRun.topDef (OpenLaw.row PySem.Challenge.rw_sameminute_k90_whole_more_minutes_told_s).prog 40).name = ("law" : PySem.Str) := by kernel_rfl
      rw [← e]
      exact hmg0
    obtain ⟨fd, hb, hF⟩ := K90.facts (P := (PySem.Challenge.rw_sameminute_k90_whole_more_minutes_told_s).prog) (w := w) KX G hmg c
    exact ⟨K, fd, K90.spLaw K, KX, hb, fun H a ns hl ho hS => ⟨a, ns, rfl, hS, hl, ho, fun _ => rfl⟩, hF⟩
