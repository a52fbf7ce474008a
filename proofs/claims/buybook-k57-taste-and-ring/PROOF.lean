import PyProof.Rows.All
import Wide.All
import OpenK.AllK
import Wide.FinOn
import HandS.ForMost
import HandS.Wide
import HandS.WideBits
import HandS.Gcd
import HandS.Style
import HandS.Flow
import HandS.IsInst
import PySem.Challenge.RW_buybook_k57_whole_taste_and_ring_never_b
import KE.KTupTabMore
import HandS.EndBits
set_option Elab.async false
set_option linter.all false
set_option maxRecDepth 100000
set_option maxHeartbeats 4000000
/-! the calculus: plain values, slots, expressions, statements -/
namespace BB
open PySem PySem.Spec L2

abbrev KF := PySem.W.Frag

/-! ### lists of related things -/
def All2 {α β : Type} (R : α → β → Prop) : List α → List β → Prop
  | [], [] => True
  | a :: as, b :: bs => R a b ∧ All2 R as bs
  | _, _ => False
section
variable {α β : Type} {R S : α → β → Prop}
theorem All2.len : ∀ {l : List α} {m : List β}, All2 R l m → l.length = m.length
  | [], [], _ => rfl
  | _ :: _, _ :: _, h => congrArg Nat.succ (All2.len h.2)
  | [], _ :: _, h => h.elim
  | _ :: _, [], h => h.elim
theorem All2.imp (f : ∀ a b, R a b → S a b) : ∀ {l : List α} {m : List β}, All2 R l m → All2 S l m
  | [], [], _ => trivial
  | _ :: _, _ :: _, h => ⟨f _ _ h.1, All2.imp f h.2⟩
  | [], _ :: _, h => h.elim
  | _ :: _, [], h => h.elim
theorem All2.get : ∀ {l : List α} {m : List β} {i : Nat} {b : β}, All2 R l m → m[i]? = some b → ∃ a, l[i]? = some a ∧ R a b
  | _ :: _, _ :: _, 0, _, h, e => ⟨_, rfl, (Option.some.inj e) ▸ h.1⟩
  | _ :: l, _ :: m, i + 1, _, h, e => All2.get (l := l) (m := m) (i := i) h.2 (by simpa using e)
  | [], [], _, _, _, e => by simp at e
  | [], _ :: _, _, _, h, _ => h.elim
  | _ :: _, [], _, _, h, _ => h.elim
theorem All2.getL : ∀ {l : List α} {m : List β} {i : Nat} {a : α}, All2 R l m → l[i]? = some a → ∃ b, m[i]? = some b ∧ R a b
  | _ :: _, _ :: _, 0, _, h, e => ⟨_, rfl, (Option.some.inj e) ▸ h.1⟩
  | _ :: l, _ :: m, i + 1, _, h, e => All2.getL (l := l) (m := m) (i := i) h.2 (by simpa using e)
  | [], [], _, _, _, e => by simp at e
  | [], _ :: _, _, _, h, _ => h.elim
  | _ :: _, [], _, _, h, _ => h.elim
theorem All2.app : ∀ {l l' : List α} {m m' : List β}, All2 R l m → All2 R l' m' → All2 R (l ++ l') (m ++ m')
  | [], _, [], _, _, h => h
  | _ :: _, _, _ :: _, _, h, h' => ⟨h.1, All2.app h.2 h'⟩
  | [], _, _ :: _, _, h, _ => h.elim
  | _ :: _, _, [], _, h, _ => h.elim
theorem All2.set {a : α} {b : β} (r : R a b) : ∀ {l : List α} {m : List β} (i : Nat), All2 R l m → All2 R (l.set i a) (m.set i b)
  | [], [], _, _ => trivial
  | _ :: _, _ :: _, 0, h => ⟨r, h.2⟩
  | _ :: _, _ :: _, i + 1, h => ⟨h.1, All2.set r i h.2⟩
  | [], _ :: _, _, h => h.elim
  | _ :: _, [], _, h => h.elim
theorem All2.drop : ∀ {l : List α} {m : List β} (i : Nat), All2 R l m → All2 R (l.drop i) (m.drop i)
  | _, _, 0, h => h
  | [], [], _ + 1, _ => trivial
  | _ :: _, _ :: _, i + 1, h => All2.drop i h.2
  | [], _ :: _, _ + 1, h => h.elim
  | _ :: _, [], _ + 1, h => h.elim
theorem All2.take : ∀ {l : List α} {m : List β} (i : Nat), All2 R l m → All2 R (l.take i) (m.take i)
  | _, _, 0, _ => by simp [All2]
  | [], [], _ + 1, _ => trivial
  | _ :: _, _ :: _, i + 1, h => ⟨h.1, All2.take i h.2⟩
  | [], _ :: _, _ + 1, h => h.elim
  | _ :: _, [], _ + 1, h => h.elim
theorem All2.mapR {γ : Type} {T : α → γ → Prop} {f : β → γ} (g : ∀ a b, R a b → T a (f b)) : ∀ {l : List α} {m : List β}, All2 R l m → All2 T l (m.map f)
  | [], [], _ => trivial
  | _ :: _, _ :: _, h => ⟨g _ _ h.1, All2.mapR g h.2⟩
  | [], _ :: _, h => h.elim
  | _ :: _, [], h => h.elim
end

/-! ### heaps -/
theorem same_l {K : KF} {H H' : Hp} {a : Addr} {xs : List V} (e : Same H H') (h : SqL K H a xs) : SqL K H' a xs := e.seq h
theorem same_t {K : KF} {H H' : Hp} {a : Addr} {xs : List V} (e : Same H H') (h : SqT K H a xs) : SqT K H' a xs := by
  rcases h with (h | ⟨o, h⟩) | h
  · exact .inl (.inl (e _ _ h))
  · exact .inl (.inr ⟨o, e _ _ h⟩)
  · exact .inr h
theorem same_new {H : Hp} {p : Addr} {o : HO} (h : H p = none) : Same H (upd H p o) := fun a u e => by
  rw [upd_ne (ne_of_none e h)]
  exact e
/-- the stable part Hs of the heap H has grown with it -/
structure Grow (Hs H Hs' H' : Hp) : Prop where
  s : Same Hs Hs'
  h : Same H H'
  sub : Same Hs' H'
  new : ∀ a o, Hs' a = some o → Hs a = some o ∨ H a = none
theorem Grow.refl {Hs H : Hp} (e : Same Hs H) : Grow Hs H Hs H := ⟨Same.refl _, Same.refl _, e, fun _ _ h => .inl h⟩
theorem Grow.trans {Hs H Hs1 H1 Hs2 H2 : Hp} (a : Grow Hs H Hs1 H1) (b : Grow Hs1 H1 Hs2 H2) : Grow Hs H Hs2 H2 :=
  ⟨a.s.trans b.s, a.h.trans b.h, b.sub, fun x o h => by
    rcases b.new x o h with h | h
    · exact a.new x o h
    · exact .inr (a.h.free h)⟩
/-- a new object, not into the stable part | into it -/
theorem Grow.newO {Hs H : Hp} {p : Addr} {o : HO} (e : Same Hs H) (h : H p = none) : Grow Hs H Hs (upd H p o) :=
  ⟨Same.refl _, same_new h, e.trans (same_new h), fun _ _ q => .inl q⟩
theorem Grow.newS {Hs H : Hp} {p : Addr} {o : HO} (e : Same Hs H) (h : H p = none) : Grow Hs H (upd Hs p o) (upd H p o) :=
  ⟨same_new (e.free h), same_new h, fun a u q => by
    by_cases z : a = p
    · subst z
      rw [upd_same] at q ⊢
      exact q
    · rw [upd_ne z] at q ⊢
      exact e _ _ q, fun a u q => by
    by_cases z : a = p
    · subst z
      exact .inr h
    · rw [upd_ne z] at q
      exact .inl q⟩

/-! ### plain values as they stand in the heap -/
class Rep (α : Type) where
  rep : KF → Hp → V → α → Prop
  mono : ∀ {K : KF} {H H' : Hp} {v : V} {x : α}, Same H H' → rep K H v x → rep K H' v x
instance : Rep Int := ⟨fun _ _ v x => v = .int x, fun _ h => h⟩
instance : Rep Nat := ⟨fun _ _ v x => v = .int (x : Int), fun _ h => h⟩
instance : Rep Bool := ⟨fun _ _ v x => v = .bl x, fun _ h => h⟩
instance : Rep Str := ⟨fun _ _ v x => v = .str x, fun _ h => h⟩
instance : Rep Unit := ⟨fun _ _ v _ => v = .non, fun _ h => h⟩
def obV : Option Bool → V
  | none => .non
  | some b => .bl b
instance {α : Type} [Rep α] : Rep (Option α) := ⟨fun K H v x => match x with | none => v = .non | some y => Rep.rep K H v y, fun {K H H' v x} e h => match x, h with | none, h => h | some _, h => Rep.mono e h⟩
theorem ob_rep {K : KF} {H : Hp} {v : V} {o : Option Bool} (h : Rep.rep K H v o) : v = obV o := by
  cases o with
  | none => exact h
  | some b => exact h
theorem rep_ob {K : KF} {H : Hp} {o : Option Bool} : Rep.rep K H (obV o) o := by
  cases o with
  | none => exact (rfl : obV none = V.non)
  | some b => exact (rfl : obV (some b) = V.bl b)
class NN (α : Type) [Rep α] : Prop where
  nn : ∀ {K : KF} {H : Hp} {v : V} {x : α}, Rep.rep K H v x → v ≠ V.non
instance : NN Bool := ⟨fun {_ _ v x} h e => by cases (show v = .bl x from h); cases e⟩
instance {α : Type} [Rep α] : Rep (List α) :=
  ⟨fun K H v l => ∃ a vs, v = .ref a ∧ H a = some (.lst vs) ∧ All2 (Rep.rep K H) vs l, fun e ⟨a, vs, h1, h2, h3⟩ => ⟨a, vs, h1, e _ _ h2, h3.imp fun _ _ h => Rep.mono e h⟩⟩
/-- the script: a list of ints that is only read -/
structure Scr where
  l : List Int
instance : Rep Scr := ⟨fun K H v s => ∃ a, v = .ref a ∧ SqL K H a (s.l.map V.int), fun e ⟨a, h1, h2⟩ => ⟨a, h1, same_l e h2⟩⟩
instance {α β : Type} [Rep α] [Rep β] : Rep (α × β) :=
  ⟨fun K H v x => ∃ a u w, v = .ref a ∧ SqT K H a [u, w] ∧ Rep.rep K H u x.1 ∧ Rep.rep K H w x.2, fun e ⟨a, u, w, h1, h2, h3, h4⟩ => ⟨a, u, w, h1, same_t e h2, Rep.mono e h3, Rep.mono e h4⟩⟩
structure T3 (α β γ : Type) where
  a : α
  b : β
  c : γ
instance {α β γ : Type} [Rep α] [Rep β] [Rep γ] : Rep (T3 α β γ) :=
  ⟨fun K H v x => ∃ a u w z, v = .ref a ∧ SqT K H a [u, w, z] ∧ Rep.rep K H u x.a ∧ Rep.rep K H w x.b ∧ Rep.rep K H z x.c,
    fun e ⟨a, u, w, z, h1, h2, h3, h4, h5⟩ => ⟨a, u, w, z, h1, same_t e h2, Rep.mono e h3, Rep.mono e h4, Rep.mono e h5⟩⟩
instance {α β : Type} [Rep α] [Rep β] : NN (α × β) := ⟨fun ⟨a, u, w, h, _⟩ e => by rw [h] at e; cases e⟩
instance : Rep Rat := ⟨fun K H v r => Rep.rep K H v ((r.num, (r.den : Int)) : Int × Int), fun e h => Rep.mono (α := Int × Int) e h⟩

instance : NN Rat := ⟨fun {K H v x} h => NN.nn (α := Int × Int) h⟩

/-! ### values of any kind, in a row -/
structure Dyn where
  rep : KF → Hp → V → Prop
  mono : ∀ {K : KF} {H H' : Hp} {v : V}, Same H H' → rep K H v → rep K H' v
def dyn {α : Type} [Rep α] (x : α) : Dyn := ⟨fun K H v => Rep.rep K H v x, fun e h => Rep.mono e h⟩
abbrev RepL (K : KF) (H : Hp) : List V → List Dyn → Prop := All2 fun v (d : Dyn) => d.rep K H v
theorem RepL.mono {K : KF} {H H' : Hp} {vs : List V} {ds : List Dyn} (e : Same H H') (h : RepL K H vs ds) : RepL K H' vs ds := All2.imp (fun _ d q => d.mono e q) h

/-! ### slots -/
structure SlotK where
  P : KF → Hp → Hp → V → List Addr → Prop
  mono : ∀ {K : KF} {Hs Hs' H H' : Hp} {v : V} {F : List Addr}, Same Hs Hs' → (∀ a ∈ F, H' a = H a) → P K Hs H v F → P K Hs' H' v F
abbrev GEnv := List (Option SlotK)
def pureK {α : Type} [Rep α] (x : α) : SlotK := ⟨fun K Hs _ v _ => Rep.rep K Hs v x, fun e _ h => Rep.mono e h⟩
def ownK {α : Type} [Rep α] (l : List α) : SlotK :=
  ⟨fun K Hs H v F => ∃ a vs, v = .ref a ∧ F = [a] ∧ H a = some (.lst vs) ∧ All2 (Rep.rep K Hs) vs l, fun {K Hs Hs' H H' v F} e f ⟨a, vs, h1, h2, h3, h4⟩ => ⟨a, vs, h1, h2, by rw [f a (by rw [h2]; simp)]; exact h3, h4.imp fun _ _ h => Rep.mono e h⟩⟩
abbrev pureS {α : Type} [Rep α] (x : α) : Option SlotK := some (pureK x)
abbrev ownS {α : Type} [Rep α] (l : List α) : Option SlotK := some (ownK l)
def dynS (d : Dyn) : Option SlotK := some ⟨fun K Hs _ v _ => d.rep K Hs v, fun e _ h => d.mono e h⟩
example {α : Type} [Rep α] (x : α) : dynS (dyn x) = pureS x := rfl

structure EnvOk (K : KF) (H0 Hs H : Hp) (σ : St) (G : GEnv) (E : List Addr) : Prop where
  h0 : Same H0 H
  sub : Same Hs H
  len : σ.length = G.length
  own : ∃ F : Nat → List Addr, (∀ i j a, a ∈ F i → a ∈ F j → i = j) ∧ (∀ i a, a ∈ F i → a ∉ E) ∧ (∀ a, (a ∈ E ∨ ∃ i, a ∈ F i) → Hs a = none ∧ H0 a = none ∧ H a ≠ none) ∧
    ∀ (i : Nat) (k : SlotK), G[i]? = some (some k) → ∃ v, σ[i]? = some (some v) ∧ k.P K Hs H v (F i)
section
variable {K : KF} {H0 Hs H Hs' H' : Hp} {σ : St} {G : GEnv} {E : List Addr}
theorem EnvOk.grow (e : EnvOk K H0 Hs H σ G E) (g : Grow Hs H Hs' H') : EnvOk K H0 Hs' H' σ G E := by
  obtain ⟨h0, sub, len, F, f1, f2, f3, f4⟩ := e
  refine ⟨h0.trans g.h, g.sub, len, F, f1, f2, fun a ha => ?_, fun i k hk => ?_⟩
  · obtain ⟨q1, q2, q3⟩ := f3 a ha
    refine ⟨?_, q2, ?_⟩
    · cases z : Hs' a with
      | none => rfl
      | some o =>
        rcases g.new a o z with y | y
        · rw [q1] at y; cases y
        · exact absurd y q3
    · cases z : H a with
      | none => exact absurd z q3
      | some o => rw [g.h a o z]; simp
  · obtain ⟨v, hv, hp⟩ := f4 i k hk
    refine ⟨v, hv, k.mono g.s (fun a ha => ?_) hp⟩
    obtain ⟨_, _, q3⟩ := f3 a (.inr ⟨i, ha⟩)
    cases z : H a with
    | none => exact absurd z q3
    | some o => exact g.h a o z
theorem EnvOk.pure {α : Type} [Rep α] {i : Nat} {x : α} (e : EnvOk K H0 Hs H σ G E) (h : G[i]? = some (pureS x)) : ∃ v, σ[i]? = some (some v) ∧ Rep.rep K Hs v x := by
  obtain ⟨_, _, _, F, _, _, _, f4⟩ := e
  exact f4 i _ h
theorem EnvOk.owned {α : Type} [Rep α] {i : Nat} {l : List α} (e : EnvOk K H0 Hs H σ G E) (h : G[i]? = some (ownS l)) : ∃ a vs, σ[i]? = some (some (.ref a)) ∧ H a = some (.lst vs) ∧ Hs a = none ∧ H0 a = none ∧ All2 (Rep.rep K Hs) vs l := by
  obtain ⟨_, _, _, F, _, _, f3, f4⟩ := e
  obtain ⟨v, hv, a, vs, rfl, hF, ha, hr⟩ := f4 i _ h
  obtain ⟨q1, q2, _⟩ := f3 a (.inr ⟨i, by rw [hF]; simp⟩)
  exact ⟨a, vs, hv, ha, q1, q2, hr⟩
/-- a slot holds a plain value from now on -/
theorem EnvOk.setP {α : Type} [Rep α] {x : α} {v : V} (e : EnvOk K H0 Hs H σ G E) (i : Nat) (r : Rep.rep K Hs v x) : EnvOk K H0 Hs H (σ.set i (some v)) (G.set i (pureS x)) E := by
  obtain ⟨h0, sub, len, F, f1, f2, f3, f4⟩ := e
  refine ⟨h0, sub, by simp [len], F, f1, f2, f3, fun j k' hk' => ?_⟩
  by_cases z : j = i
  · subst z
    have hj : j < G.length := by
      have := (List.getElem?_eq_some_iff.mp hk').1
      simpa using this
    rw [List.getElem?_set_self hj] at hk'
    cases hk'
    exact ⟨v, List.getElem?_set_self (by rw [len]; exact hj), r⟩
  · rw [List.getElem?_set_ne (Ne.symm z)] at hk'
    obtain ⟨u, hu, hp⟩ := f4 j k' hk'
    exact ⟨u, by rw [List.getElem?_set_ne (Ne.symm z)]; exact hu, hp⟩
/-- nothing is known of a slot -/
theorem EnvOk.forget (e : EnvOk K H0 Hs H σ G E) (i : Nat) (o : Option V) : EnvOk K H0 Hs H (σ.set i o) (G.set i none) E := by
  obtain ⟨h0, sub, len, F, f1, f2, f3, f4⟩ := e
  refine ⟨h0, sub, by simp [len], F, f1, f2, f3, fun j k' hk' => ?_⟩
  by_cases z : j = i
  · subst z
    by_cases hj : j < G.length
    · rw [List.getElem?_set_self hj] at hk'
      cases hk'
    · rw [List.getElem?_eq_none (by simpa using hj)] at hk'
      cases hk'
  · rw [List.getElem?_set_ne (Ne.symm z)] at hk'
    obtain ⟨u, hu, hp⟩ := f4 j k' hk'
    exact ⟨u, by rw [List.getElem?_set_ne (Ne.symm z)]; exact hu, hp⟩
/-- a list that was not there before H1 is a slot's own -/
theorem EnvOk.setO {α : Type} [Rep α] {l : List α} {p : Addr} {vs : List V} {Hs1 H1 : Hp} (e : EnvOk K H0 Hs1 H1 σ G E) (g : Grow Hs1 H1 Hs H) (i : Nat) (h1 : H1 p = none) (h2 : Hs p = none) (h3 : H p = some (.lst vs)) (h4 : All2 (Rep.rep K Hs) vs l) :
    EnvOk K H0 Hs H (σ.set i (some (.ref p))) (G.set i (ownS l)) E := by
  obtain ⟨F, f1, f2, f3, f4⟩ := e.own
  have e' := e.grow g
  have hp : ∀ j, p ∉ F j := fun j z => (f3 p (.inr ⟨j, z⟩)).2.2 h1
  have hE : p ∉ E := fun z => (f3 p (.inl z)).2.2 h1
  obtain ⟨h0', sub', len', _⟩ := e'
  refine ⟨h0', sub', by simp [len'], fun j => if j = i then [p] else F j, fun j j' a => ?_, fun j a => ?_, fun a ha => ?_, fun j k' hk' => ?_⟩
  · dsimp only
    by_cases z : j = i <;> by_cases z' : j' = i
    · intro _ _; rw [z, z']
    · rw [if_pos z, if_neg z']
      intro q1 q2
      rw [List.mem_singleton.mp q1] at q2
      exact absurd q2 (hp j')
    · rw [if_neg z, if_pos z']
      intro q1 q2
      rw [List.mem_singleton.mp q2] at q1
      exact absurd q1 (hp j)
    · rw [if_neg z, if_neg z']
      exact f1 j j' a
  · dsimp only
    by_cases z : j = i
    · rw [if_pos z]
      intro q
      rw [List.mem_singleton.mp q]
      exact hE
    · rw [if_neg z]
      exact f2 j a
  · have old : (a ∈ E ∨ ∃ i, a ∈ F i) → Hs a = none ∧ H0 a = none ∧ H a ≠ none := fun q => by
      obtain ⟨q1, q2, q3⟩ := f3 a q
      refine ⟨?_, q2, ?_⟩
      · cases z : Hs a with
        | none => rfl
        | some o =>
          rcases g.new a o z with y | y
          · rw [q1] at y; cases y
          · exact absurd y q3
      · cases z : H1 a with
        | none => exact absurd z q3
        | some o => rw [g.h a o z]; simp
    rcases ha with ha | ⟨j, ha⟩
    · exact old (.inl ha)
    · dsimp only at ha
      by_cases z : j = i
      · rw [if_pos z, List.mem_singleton] at ha
        subst ha
        exact ⟨h2, e.h0.free h1, by rw [h3]; simp⟩
      · rw [if_neg z] at ha
        exact old (.inr ⟨j, ha⟩)
  · by_cases z : j = i
    · subst z
      have hj : j < G.length := by
        have := (List.getElem?_eq_some_iff.mp hk').1
        simpa using this
      rw [List.getElem?_set_self hj] at hk'
      cases hk'
      exact ⟨.ref p, List.getElem?_set_self (by rw [len']; exact hj), p, vs, rfl, by dsimp only; rw [if_pos rfl], h3, h4⟩
    · rw [List.getElem?_set_ne (Ne.symm z)] at hk'
      obtain ⟨u, hu, hq⟩ := f4 j k' hk'
      refine ⟨u, by rw [List.getElem?_set_ne (Ne.symm z)]; exact hu, ?_⟩
      dsimp only
      rw [if_neg z]
      refine k'.mono g.s (fun a ha => ?_) hq
      obtain ⟨_, _, q3⟩ := f3 a (.inr ⟨j, ha⟩)
      cases y : H1 a with
      | none => exact absurd y q3
      | some o => exact g.h a o y
/-- an owned list is changed -/
theorem EnvOk.mutO {α : Type} [Rep α] {i : Nat} {l l' : List α} {a : Addr} {vs' : List V} (e : EnvOk K H0 Hs H σ G E) (h : G[i]? = some (ownS l)) (ha : σ[i]? = some (some (.ref a))) (h4 : All2 (Rep.rep K Hs) vs' l') :
    EnvOk K H0 Hs (upd H a (.lst vs')) σ (G.set i (ownS l')) E := by
  obtain ⟨h0, sub, len, F, f1, f2, f3, f4⟩ := e
  obtain ⟨v, hv, a', vs, rfl, hF, ha', hr⟩ := f4 i _ h
  rw [ha] at hv
  cases hv
  obtain ⟨q1, q2, q3⟩ := f3 a (.inr ⟨i, by rw [hF]; simp⟩)
  refine ⟨fun b o hb => ?_, fun b o hb => ?_, by simp [len], F, f1, f2, fun b hb => ?_, fun j k' hk' => ?_⟩
  · have : b ≠ a := fun z => by rw [z, q2] at hb; cases hb
    rw [upd_ne this]
    exact h0 b o hb
  · have : b ≠ a := fun z => by rw [z, q1] at hb; cases hb
    rw [upd_ne this]
    exact sub b o hb
  · obtain ⟨r1, r2, r3⟩ := f3 b hb
    refine ⟨r1, r2, ?_⟩
    by_cases z : b = a
    · rw [z, upd_same]; simp
    · rw [upd_ne z]; exact r3
  · by_cases z : j = i
    · subst z
      have hj : j < G.length := by
        have := (List.getElem?_eq_some_iff.mp hk').1
        simpa using this
      rw [List.getElem?_set_self hj] at hk'
      cases hk'
      exact ⟨.ref a, ha, a, vs', rfl, hF, upd_same, h4⟩
    · rw [List.getElem?_set_ne (Ne.symm z)] at hk'
      obtain ⟨u, hu, hq⟩ := f4 j k' hk'
      refine ⟨u, hu, k'.mono (Same.refl _) (fun b hb => ?_) hq⟩
      have : b ≠ a := fun y => by
        subst y
        exact z (f1 j i b hb (by rw [hF]; simp))
      rw [upd_ne this]
/-- an owned list is given away: from now on it stands still -/
theorem EnvOk.freeze {α : Type} [Rep α] {i : Nat} {l : List α} {Hs0 : Hp} (e : EnvOk K H0 Hs H σ G E) (g : Grow Hs0 H0 Hs H) (h : G[i]? = some (ownS l)) :
    ∃ Hs', Grow Hs0 H0 Hs' H ∧ EnvOk K H0 Hs' H σ (G.set i (pureS l)) E := by
  obtain ⟨h0, sub, len, F, f1, f2, f3, f4⟩ := e
  obtain ⟨v, hv, a, vs, rfl, hF, ha, hr⟩ := f4 i _ h
  obtain ⟨q1, q2, q3⟩ := f3 a (.inr ⟨i, by rw [hF]; simp⟩)
  have e1 : Same Hs (upd Hs a (.lst vs)) := same_new q1
  have e2 : Same (upd Hs a (.lst vs)) H := fun b o hb => by
    by_cases z : b = a
    · subst z; rw [upd_same] at hb; rw [ha]; exact hb
    · rw [upd_ne z] at hb; exact sub b o hb
  refine ⟨upd Hs a (.lst vs), ⟨g.s.trans e1, g.h, e2, fun b o hb => ?_⟩, h0, e2, by simp [len], fun j => if j = i then [] else F j, fun j j' b => ?_, fun j b => ?_, fun b hb => ?_, fun j k' hk' => ?_⟩
  · by_cases z : b = a
    · subst z; exact .inr q2
    · rw [upd_ne z] at hb; exact g.new b o hb
  · dsimp only
    by_cases z : j = i
    · rw [if_pos z]; intro q; exact nomatch q
    · by_cases z' : j' = i
      · rw [if_pos z']; intro _ q; exact nomatch q
      · rw [if_neg z, if_neg z']; exact f1 j j' b
  · dsimp only
    by_cases z : j = i
    · rw [if_pos z]; intro q; exact nomatch q
    · rw [if_neg z]; exact f2 j b
  · have old : (b ∈ E ∨ ∃ i, b ∈ F i) ∧ b ≠ a := by
      rcases hb with hb | ⟨j, hb⟩
      · exact ⟨.inl hb, fun z => f2 i a (by rw [hF]; simp) (z ▸ hb)⟩
      · dsimp only at hb
        by_cases z : j = i
        · rw [if_pos z] at hb; exact nomatch hb
        · rw [if_neg z] at hb
          exact ⟨.inr ⟨j, hb⟩, fun y => z (f1 j i b hb (by rw [y, hF]; simp))⟩
    obtain ⟨r1, r2, r3⟩ := f3 b old.1
    exact ⟨by rw [upd_ne old.2]; exact r1, r2, r3⟩
  · by_cases z : j = i
    · subst z
      have hj : j < G.length := by
        have := (List.getElem?_eq_some_iff.mp hk').1
        simpa using this
      rw [List.getElem?_set_self hj] at hk'
      cases hk'
      exact ⟨.ref a, hv, a, vs, rfl, upd_same, hr.imp fun _ _ q => Rep.mono e1 q⟩
    · rw [List.getElem?_set_ne (Ne.symm z)] at hk'
      obtain ⟨u, hu, hq⟩ := f4 j k' hk'
      exact ⟨u, hu, by dsimp only; rw [if_neg z]; exact k'.mono e1 (fun _ _ => rfl) hq⟩
end
end BB

/-! expressions -/
namespace BB
open PySem PySem.Spec L2

def EvD {α : Type} [Rep α] (K : KF) (G : GEnv) (t : TE) (x : α) : Prop :=
  ∀ H0 Hs H σ E, EnvOk K H0 Hs H σ G E → ∀ Q : VK, (∀ v Hs' H', Grow Hs H Hs' H' → Rep.rep K Hs' v x → Q v H') → t σ H Q
/-- a list that can be read -/
def EvL {α : Type} [Rep α] (K : KF) (G : GEnv) (t : TE) (l : List α) : Prop :=
  ∀ H0 Hs H σ E, EnvOk K H0 Hs H σ G E → ∀ Q : VK, (∀ a vs Hs' H', Grow Hs H Hs' H' → H' a = some (.lst vs) → All2 (Rep.rep K Hs') vs l → Q (.ref a) H') → t σ H Q
/-- a new list -/
def EvN {α : Type} [Rep α] (K : KF) (G : GEnv) (t : TE) (l : List α) : Prop :=
  ∀ H0 Hs H σ E, EnvOk K H0 Hs H σ G E → ∀ Q : VK, (∀ p vs Hs' H', Grow Hs H Hs' H' → H p = none → Hs' p = none → H' p = some (.lst vs) → All2 (Rep.rep K Hs') vs l → Q (.ref p) H') → t σ H Q
def EvB (K : KF) (G : GEnv) (t : TT) (b : Bool) : Prop :=
  ∀ H0 Hs H σ E, EnvOk K H0 Hs H σ G E → ∀ Q : Bool → Hp → Prop, (∀ Hs' H', Grow Hs H Hs' H' → Q b H') → t σ H Q
def EvA (K : KF) (G : GEnv) (t : TA) (ds : List Dyn) : Prop :=
  ∀ H0 Hs H σ E, EnvOk K H0 Hs H σ G E → ∀ Q : List V → Hp → Prop, (∀ vs Hs' H', Grow Hs H Hs' H' → RepL K Hs' vs ds → Q vs H') → t σ H Q
def EvO (K : KF) (G : GEnv) (t : TO) (o : Option Int) : Prop :=
  ∀ H0 Hs H σ E, EnvOk K H0 Hs H σ G E → ∀ Q : Option Int → Hp → Prop, (∀ Hs' H', Grow Hs H Hs' H' → Q o H') → t σ H Q

section
variable {α β γ : Type} [Rep α] [Rep β] [Rep γ] {K : KF} {G : GEnv} {ta tb tc te : TE} {t u : TT}
theorem evd_var {i : Nat} {x : α} (h : G[i]? = some (pureS x)) : EvD K G (tVar i) x := fun H0 Hs H σ E e Q q => by
  obtain ⟨v, hv, r⟩ := e.pure h
  exact ⟨v, hv, q v Hs H (Grow.refl e.sub) r⟩
theorem evl_own {i : Nat} {l : List α} (h : G[i]? = some (ownS l)) : EvL K G (tVar i) l := fun H0 Hs H σ E e Q q => by
  obtain ⟨a, vs, hv, ha, _, _, r⟩ := e.owned h
  exact ⟨.ref a, hv, q a vs Hs H (Grow.refl e.sub) ha r⟩
theorem EvD.l {l : List α} (h : EvD K G te l) : EvL K G te l := fun H0 Hs H σ E e Q q =>
  h H0 Hs H σ E e Q fun v Hs' H' g ⟨a, vs, hv, ha, r⟩ => by
    subst hv
    exact q a vs Hs' H' g (g.sub _ _ ha) r
theorem EvN.l {l : List α} (h : EvN K G te l) : EvL K G te l := fun H0 Hs H σ E e Q q =>
  h H0 Hs H σ E e Q fun p vs Hs' H' g _ _ hp r => q p vs Hs' H' g hp r
theorem grow_put {Hs H Hs' H' : Hp} {p : Addr} {o : HO} (g : Grow Hs H Hs' H') (h1 : H p = none) (h2 : Hs' p = none) (h3 : H' p = some o) : Grow Hs H (upd Hs' p o) H' :=
  ⟨g.s.trans (same_new h2), g.h, fun a u q => by
    by_cases z : a = p
    · subst z; rw [upd_same] at q; rw [h3]; exact q
    · rw [upd_ne z] at q; exact g.sub a u q, fun a u q => by
    by_cases z : a = p
    · subst z; exact .inr h1
    · rw [upd_ne z] at q; exact g.new a u q⟩
theorem EvN.d {l : List α} (h : EvN K G te l) : EvD K G te l := fun H0 Hs H σ E e Q q =>
  h H0 Hs H σ E e Q fun p vs Hs' H' g h1 h2 h3 r => q (.ref p) (upd Hs' p (.lst vs)) H' (grow_put g h1 h2 h3)
    ⟨p, vs, rfl, upd_same, r.imp fun _ _ z => Rep.mono (same_new h2) z⟩
theorem evd_int {i : Int} : EvD K G (tC (.int i)) i := fun H0 Hs H σ E e Q q => q _ Hs H (Grow.refl e.sub) rfl
theorem evd_nat {i : Nat} : EvD K G (tC (.int (i : Int))) i := fun H0 Hs H σ E e Q q => q _ Hs H (Grow.refl e.sub) rfl
theorem evd_bl {b : Bool} : EvD K G (tC (.bl b)) b := fun H0 Hs H σ E e Q q => q _ Hs H (Grow.refl e.sub) rfl
theorem evd_ob {b : Bool} : EvD K G (tC (.bl b)) (some b) := fun H0 Hs H σ E e Q q => q _ Hs H (Grow.refl e.sub) rfl
theorem evd_non : EvD K G (tC .non) (none : Option α) := fun H0 Hs H σ E e Q q => q _ Hs H (Grow.refl e.sub) rfl
theorem evd_str {x : Str} : EvD K G (tC (.str x)) x := fun H0 Hs H σ E e Q q => q _ Hs H (Grow.refl e.sub) rfl
theorem EvD.cast {x : α} {y : β} (h : EvD K G te x) (c : ∀ {H : Hp} {v : V}, Rep.rep K H v x → Rep.rep K H v y) : EvD K G te y := fun H0 Hs H σ E e Q q =>
  h H0 Hs H σ E e Q fun v Hs' H' g r => q v Hs' H' g (c r)
theorem EvD.to {x y : α} (h : EvD K G te x) (e : x = y) : EvD K G te y := e ▸ h
theorem EvD.int {n : Nat} (h : EvD K G te n) : EvD K G te (n : Int) := h
theorem EvD.some {x : α} (h : EvD K G te x) : EvD K G te (some x) := h
theorem EvD.val {x : α} (h : EvD K G te (Option.some x)) : EvD K G te x := h
theorem EvD.pr {r : Rat} (h : EvD K G te r) : EvD K G te ((r.num, (r.den : Int)) : Int × Int) := h

theorem EvD.rat {x : Int × Int} {r : Rat} (h : EvD K G te x) (e : x = (r.num, (r.den : Int))) : EvD K G te r := by
  subst e
  exact h
/-- two values in a row -/
theorem two {x : α} {y : β} (ha : EvD K G ta x) (hb : EvD K G tb y) {H0 Hs H : Hp} {σ : L2.St} {E : List Addr} (e : EnvOk K H0 Hs H σ G E) {R : V → V → Hp → Prop}
    (q : ∀ u w Hs' H', Grow Hs H Hs' H' → Rep.rep K Hs' u x → Rep.rep K Hs' w y → R u w H') : ta σ H fun u H1 => tb σ H1 fun w H2 => R u w H2 :=
  ha H0 Hs H σ E e _ fun u Hs1 H1 g1 r1 => hb H0 Hs1 H1 σ E (e.grow g1) _ fun w Hs2 H2 g2 r2 => q u w Hs2 H2 (g1.trans g2) (Rep.mono g2.s r1) r2
/-- an operation on two plain values -/
def RD (K : KF) (r : R2) (x : α) (y : β) (z : γ) : Prop := ∀ Hs H u w, Same Hs H → Rep.rep K Hs u x → Rep.rep K Hs w y → ∀ Q : VK, (∀ v Hs' H', Grow Hs H Hs' H' → Rep.rep K Hs' v z → Q v H') → r u w H Q
theorem evd_op {r : R2} {x : α} {y : β} {z : γ} (ha : EvD K G ta x) (hb : EvD K G tb y) (hr : RD K r x y z) : EvD K G (tOp r ta tb) z := fun H0 Hs H σ E e Q q =>
  two ha hb e fun u w Hs' H' g r1 r2 => hr Hs' H' u w g.sub r1 r2 Q fun v Hs2 H2 g2 r => q v Hs2 H2 (g.trans g2) r
theorem rd_I0 {f : Int → Int → Int} {i j : Int} : RD K (rI0 fun i j => .int (f i j)) i j (f i j) := fun Hs H u w e h1 h2 Q q => ⟨i, j, h1, h2, q _ Hs H (Grow.refl e) rfl⟩
theorem rd_B0 {f : Int → Int → Bool} {i j : Int} : RD K (rI0 fun i j => .bl (f i j)) i j (f i j) := fun Hs H u w e h1 h2 Q q => ⟨i, j, h1, h2, q _ Hs H (Grow.refl e) rfl⟩
theorem rd_I {C : Int → Int → Prop} {f : Int → Int → Int} {i j : Int} (hc : C i j) : RD K (rI C fun i j => .int (f i j)) i j (f i j) := fun Hs H u w e h1 h2 Q q => ⟨i, j, h1, h2, hc, q _ Hs H (Grow.refl e) rfl⟩
theorem evd_add {i j : Int} (ha : EvD K G ta i) (hb : EvD K G tb j) : EvD K G (tOp (rI0 fun i j => .int (i + j)) ta tb) (i + j) := evd_op ha hb rd_I0
theorem evd_sub {i j : Int} (ha : EvD K G ta i) (hb : EvD K G tb j) : EvD K G (tOp (rI0 fun i j => .int (i - j)) ta tb) (i - j) := evd_op ha hb rd_I0
theorem evd_mul {i j : Int} (ha : EvD K G ta i) (hb : EvD K G tb j) (h : IntMulOk i j) : EvD K G (tOp (rI IntMulOk fun i j => .int (i * j)) ta tb) (i * j) := evd_op ha hb (rd_I h)
theorem evd_div {i j : Int} (ha : EvD K G ta i) (hb : EvD K G tb j) (h : 0 < j) : EvD K G (tOp (rI (fun _ j => 0 < j) fun i j => .int (i / j)) ta tb) (i / j) := evd_op ha hb (rd_I (C := fun _ j => 0 < j) h)
theorem evd_mod {i j : Int} (ha : EvD K G ta i) (hb : EvD K G tb j) (h : 0 < j) : EvD K G (tOp (rI (fun _ j => 0 < j) fun i j => .int (i % j)) ta tb) (i % j) := evd_op ha hb (rd_I (C := fun _ j => 0 < j) h)
theorem evd_pow {i j : Int} (ha : EvD K G ta i) (hb : EvD K G tb j) (h : CPow i j) : EvD K G (tOp (rI CPow fun i j => .int (i ^ j.toNat)) ta tb) (i ^ j.toNat) := evd_op ha hb (rd_I (C := CPow) h)
theorem evd_neg {i : Int} (ha : EvD K G ta i) : EvD K G (tUn (rU fun i => .int (-i)) ta) (-i) := fun H0 Hs H σ E e Q q =>
  ha H0 Hs H σ E e _ fun u Hs' H' g r => ⟨i, r, q _ Hs' H' g rfl⟩
theorem evd_lt {i j : Int} (ha : EvD K G ta i) (hb : EvD K G tb j) : EvD K G (tOp (rI0 fun i j => .bl (decide (i < j))) ta tb) (decide (i < j)) := evd_op ha hb (rd_B0 (f := fun i j => decide (i < j)))
theorem evd_le {i j : Int} (ha : EvD K G ta i) (hb : EvD K G tb j) : EvD K G (tOp (rI0 fun i j => .bl (decide (i ≤ j))) ta tb) (decide (i ≤ j)) := evd_op ha hb (rd_B0 (f := fun i j => decide (i ≤ j)))
theorem evd_gt {i j : Int} (ha : EvD K G ta i) (hb : EvD K G tb j) : EvD K G (tOp (rI0 fun i j => .bl (decide (j < i))) ta tb) (decide (j < i)) := evd_op ha hb (rd_B0 (f := fun i j => decide (j < i)))
theorem evd_eqI {i j : Int} (ha : EvD K G ta i) (hb : EvD K G tb j) : EvD K G (tOp rEq ta tb) (decide (i = j)) := evd_op ha hb fun Hs H u w e h1 h2 Q q => by
  cases (show u = .int i from h1)
  cases (show w = .int j from h2)
  exact ⟨rfl, q _ Hs H (Grow.refl e) (by show V.bl _ = V.bl _; simp)⟩
theorem evd_neI {i j : Int} (ha : EvD K G ta i) (hb : EvD K G tb j) : EvD K G (tOp rNe ta tb) (!decide (i = j)) := evd_op ha hb fun Hs H u w e h1 h2 Q q => by
  cases (show u = .int i from h1)
  cases (show w = .int j from h2)
  exact ⟨rfl, q _ Hs H (Grow.refl e) (by show V.bl _ = V.bl _; simp)⟩
theorem evd_eqS {i j : Str} (ha : EvD K G ta i) (hb : EvD K G tb j) : EvD K G (tOp rEq ta tb) (decide (i = j)) := evd_op ha hb fun Hs H u w e h1 h2 Q q => by
  cases (show u = .str i from h1)
  cases (show w = .str j from h2)
  exact ⟨rfl, q _ Hs H (Grow.refl e) (by show V.bl _ = V.bl _; simp)⟩
theorem evd_neS {i j : Str} (ha : EvD K G ta i) (hb : EvD K G tb j) : EvD K G (tOp rNe ta tb) (!decide (i = j)) := evd_op ha hb fun Hs H u w e h1 h2 Q q => by
  cases (show u = .str i from h1)
  cases (show w = .str j from h2)
  exact ⟨rfl, q _ Hs H (Grow.refl e) (by show V.bl _ = V.bl _; simp)⟩

/-! ### lists and tuples read -/
theorem atI_of {α : Type} {l : List α} {i : Int} {v : α} (h0 : 0 ≤ i) (h : l[i.toNat]? = some v) : atI l i = some v := by
  have e : i = (i.toNat : Int) := by omega
  rw [e]
  exact atI_nat h
theorem evd_ix [Inhabited α] {l : List α} {i : Nat} (ha : EvL K G ta l) (hb : EvD K G tb i) (h : i < l.length) : EvD K G (tOp (rIxL K) ta tb) (l.getD i default) := fun H0 Hs H σ E e Q q =>
  ha H0 Hs H σ E e _ fun a vs Hs1 H1 g1 h1 r1 => hb H0 Hs1 H1 σ E (e.grow g1) _ fun w Hs2 H2 g2 r2 => by
    cases (show w = .int (i : Int) from r2)
    obtain ⟨v, hv, r⟩ := r1.get (List.getElem?_eq_getElem h)
    have e1 : l.getD i default = l[i] := by rw [List.getD_eq_getElem?_getD, List.getElem?_eq_getElem h]; rfl
    exact ⟨a, vs, i, v, rfl, rfl, .inl (.inl (g2.h _ _ h1)), atI_nat hv, q v Hs2 H2 (g1.trans g2) (by rw [e1]; exact Rep.mono g2.s r)⟩
theorem evd_ixI [Inhabited α] {l : List α} {i : Int} (ha : EvL K G ta l) (hb : EvD K G tb i) (h0 : 0 ≤ i) (h : i < l.length) : EvD K G (tOp (rIxL K) ta tb) (l.getD i.toNat default) :=
  evd_ix (i := i.toNat) ha (by rw [show EvD K G tb i.toNat = EvD K G tb ((i.toNat : Nat) : Int) from rfl, show ((i.toNat : Nat) : Int) = i by omega]; exact hb) (by omega)
/-- the last item -/
theorem evd_last [Inhabited α] {l : List α} (ha : EvL K G ta l) (h : l ≠ []) : EvD K G (tOp (rIxL K) ta (tUn (rU fun i => .int (-i)) (tC (.int 1)))) (l.getD (l.length - 1) default) := fun H0 Hs H σ E e Q q =>
  ha H0 Hs H σ E e _ fun a vs Hs1 H1 g1 h1 r1 => by
    have hl : l.length - 1 < l.length := by
      have := List.length_pos_iff.mpr h
      omega
    obtain ⟨v, hv, r⟩ := r1.get (List.getElem?_eq_getElem hl)
    have e1 : l.getD (l.length - 1) default = l[l.length - 1] := by rw [List.getD_eq_getElem?_getD, List.getElem?_eq_getElem hl]; rfl
    refine ⟨1, rfl, a, vs, -1, v, rfl, rfl, .inl (.inl h1), ?_, q v Hs1 H1 g1 (by rw [e1]; exact r)⟩
    have hn : vs.length = l.length := r1.len
    have hd : vs.drop (l.length - 1) = [v] := by
      rw [List.drop_eq_getElem_cons (by omega)]
      rw [List.getElem?_eq_getElem (by omega)] at hv
      rw [Option.some.inj hv, List.drop_eq_nil_of_le (by omega)]
    have hvs : vs = vs.take (l.length - 1) ++ [v] := (List.take_append_drop (l.length - 1) vs).symm.trans (by rw [hd])
    rw [hvs]
    exact atI_last _ _
theorem evd_ixS {s : Scr} {i : Nat} (ha : EvD K G ta s) (hb : EvD K G tb i) (h : i < s.l.length) : EvD K G (tOp (rIxL K) ta tb) (s.l.getD i 0) := fun H0 Hs H σ E e Q q =>
  two ha hb e fun u w Hs2 H2 g r1 r2 => by
    cases (show w = .int (i : Int) from r2)
    obtain ⟨a, rfl, hs⟩ := r1
    have e1 : s.l.getD i 0 = s.l[i] := by rw [List.getD_eq_getElem?_getD, List.getElem?_eq_getElem h]; rfl
    refine ⟨a, _, i, .int (s.l.getD i 0), rfl, rfl, same_l g.sub hs, atI_nat ?_, q _ Hs2 H2 g rfl⟩
    rw [List.getElem?_map, List.getElem?_eq_getElem h, e1]
    rfl
theorem evd_fst {x : α × β} (ha : EvD K G ta x) : EvD K G (tOp (rIxT K) ta (tC (.int 0))) x.1 := fun H0 Hs H σ E e Q q =>
  ha H0 Hs H σ E e _ fun u Hs1 H1 g r => by
    obtain ⟨a, v, w, rfl, ht, h1, h2⟩ := r
    exact ⟨a, _, 0, v, rfl, rfl, same_t g.sub ht, atI_nat (j := 0) rfl, q _ Hs1 H1 g h1⟩
theorem evd_snd {x : α × β} (ha : EvD K G ta x) : EvD K G (tOp (rIxT K) ta (tC (.int 1))) x.2 := fun H0 Hs H σ E e Q q =>
  ha H0 Hs H σ E e _ fun u Hs1 H1 g r => by
    obtain ⟨a, v, w, rfl, ht, h1, h2⟩ := r
    exact ⟨a, _, 1, w, rfl, rfl, same_t g.sub ht, atI_nat (j := 1) rfl, q _ Hs1 H1 g h2⟩
theorem evd_num {x : Rat} (ha : EvD K G ta x) : EvD K G (tOp (rIxT K) ta (tC (.int 0))) x.num := evd_fst (x := ((x.num, (x.den : Int)) : Int × Int)) ha
theorem evd_den {x : Rat} (ha : EvD K G ta x) : EvD K G (tOp (rIxT K) ta (tC (.int 1))) (x.den : Int) := evd_snd (x := ((x.num, (x.den : Int)) : Int × Int)) ha
theorem len_of {l : List α} (ha : EvL K G ta l) : EvD K G (tCB (fun xs H Q => ∃ p ys, xs = [.ref p] ∧ (SqL K H p ys ∨ SqT K H p ys) ∧ Q (.int ys.length) H) (tCons ta tNil)) l.length := fun H0 Hs H σ E e Q q =>
  ha H0 Hs H σ E e _ fun a vs Hs1 H1 g h1 r => ⟨a, vs, rfl, .inl (.inl (.inl h1)), q _ Hs1 H1 g (by show V.int _ = V.int _; rw [r.len])⟩
theorem len_ofS {s : Scr} (ha : EvD K G ta s) : EvD K G (tCB (fun xs H Q => ∃ p ys, xs = [.ref p] ∧ (SqL K H p ys ∨ SqT K H p ys) ∧ Q (.int ys.length) H) (tCons ta tNil)) s.l.length := fun H0 Hs H σ E e Q q =>
  ha H0 Hs H σ E e _ fun u Hs1 H1 g ⟨a, hu, hs⟩ => by
    subst hu
    exact ⟨a, _, rfl, .inl (same_l g.sub hs), q _ Hs1 H1 g (by show V.int _ = V.int _; rw [List.length_map])⟩
theorem len_ofP {x : α × β} (ha : EvD K G ta x) : EvD K G (tCB (fun xs H Q => ∃ p ys, xs = [.ref p] ∧ (SqL K H p ys ∨ SqT K H p ys) ∧ Q (.int ys.length) H) (tCons ta tNil)) (2 : Nat) := fun H0 Hs H σ E e Q q =>
  ha H0 Hs H σ E e _ fun u Hs1 H1 g r => by
    obtain ⟨a, v, w, rfl, ht, _, _⟩ := r
    exact ⟨a, _, rfl, .inr (same_t g.sub ht), q _ Hs1 H1 g rfl⟩

/-! ### displays -/
theorem eva_nil : EvA K G tNil [] := fun H0 Hs H σ E e Q q => q [] Hs H (Grow.refl e.sub) trivial
theorem eva_cons {x : α} {tr : TA} {ds : List Dyn} (h : EvD K G ta x) (hr : EvA K G tr ds) : EvA K G (tCons ta tr) (dyn x :: ds) := fun H0 Hs H σ E e Q q =>
  h H0 Hs H σ E e _ fun u Hs1 H1 g1 r1 => hr H0 Hs1 H1 σ E (e.grow g1) _ fun us Hs2 H2 g2 r2 => q _ Hs2 H2 (g1.trans g2) ⟨Rep.mono g2.s r1, r2⟩
theorem line2 {n : Nat} (h : n ≤ 100000) : n ≤ sizeLine := Nat.le_trans h (by decide)
theorem evd_tup2 {x : α} {y : β} (ha : EvD K G ta x) (hb : EvD K G tb y) : EvD K G (tTup (tCons ta (tCons tb tNil))) (x, y) := fun H0 Hs H σ E e Q q =>
  two ha hb e fun u w Hs' H' g r1 r2 => ⟨line2 (by simp), fun p hp => q (.ref p) _ _ (g.trans (Grow.newS g.sub hp))
    ⟨p, u, w, rfl, .inl (.inl upd_same), Rep.mono (same_new (g.sub.free hp)) r1, Rep.mono (same_new (g.sub.free hp)) r2⟩⟩
theorem evd_tup3 {x : α} {y : β} {z : γ} (ha : EvD K G ta x) (hb : EvD K G tb y) (hc : EvD K G tc z) : EvD K G (tTup (tCons ta (tCons tb (tCons tc tNil)))) (T3.mk x y z) := fun H0 Hs H σ E e Q q =>
  ha H0 Hs H σ E e _ fun u Hs1 H1 g1 r1 => two hb hc (e.grow g1) fun w z' Hs2 H2 g2 r2 r3 => ⟨line2 (by simp), fun p hp => q (.ref p) _ _ ((g1.trans g2).trans (Grow.newS g2.sub hp))
    ⟨p, u, w, z', rfl, .inl (.inl upd_same), Rep.mono (g2.s.trans (same_new (g2.sub.free hp))) r1, Rep.mono (same_new (g2.sub.free hp)) r2, Rep.mono (same_new (g2.sub.free hp)) r3⟩⟩
/-- the items of a list display -/
def EvIs (K : KF) (G : GEnv) (t : TA) (l : List α) : Prop :=
  ∀ H0 Hs H σ E, EnvOk K H0 Hs H σ G E → ∀ Q : List V → Hp → Prop, (∀ vs Hs' H', Grow Hs H Hs' H' → All2 (Rep.rep K Hs') vs l → Q vs H') → t σ H Q
theorem evi_nil : EvIs K G tNil ([] : List α) := fun H0 Hs H σ E e Q q => q [] Hs H (Grow.refl e.sub) trivial
theorem evi_cons {x : α} {l : List α} {tr : TA} (h : EvD K G ta x) (hr : EvIs K G tr l) : EvIs K G (tCons ta tr) (x :: l) := fun H0 Hs H σ E e Q q =>
  h H0 Hs H σ E e _ fun u Hs1 H1 g1 r1 => hr H0 Hs1 H1 σ E (e.grow g1) _ fun us Hs2 H2 g2 r2 => q _ Hs2 H2 (g1.trans g2) ⟨Rep.mono g2.s r1, r2⟩
theorem evn_lst {l : List α} {t : TA} (h : EvIs K G t l) (hl : l.length ≤ 100000) : EvN K G (tLst t) l := fun H0 Hs H σ E e Q q =>
  h H0 Hs H σ E e _ fun vs Hs' H' g r => ⟨line2 (by rw [r.len]; exact hl), fun p hp => q p vs Hs' _ (g.trans (Grow.newO g.sub hp)) (g.h.free hp) (g.sub.free hp) upd_same r⟩
theorem evn_nil : EvN K G (tLst tNil) ([] : List α) := evn_lst evi_nil (by simp)

/-! ### tests -/
theorem evb_test {b : Bool} (h : EvD K G te b) : EvB K G (tTest te) b := fun H0 Hs H σ E e Q q => h H0 Hs H σ E e _ fun v Hs' H' g r => ⟨b, r, q Hs' H' g⟩
theorem evb_B {b : Bool} (h : EvD K G te b) : EvB K G (tB te) b := fun H0 Hs H σ E e Q q => h H0 Hs H σ E e _ fun v Hs' H' g r => ⟨b, r, q Hs' H' g⟩
theorem evb_and {a b : Bool} (h1 : EvB K G t a) (h2 : a = true → EvB K G u b) : EvB K G (tAnd t u) (a && b) := fun H0 Hs H σ E e Q q => h1 H0 Hs H σ E e _ fun Hs1 H1 g1 => by
  cases a with
  | true =>
    show u σ H1 Q
    exact h2 rfl H0 Hs1 H1 σ E (e.grow g1) Q fun Hs2 H2 g2 => q Hs2 H2 (g1.trans g2)
  | false =>
    show Q false H1
    exact q Hs1 H1 g1
theorem evb_or {a b : Bool} (h1 : EvB K G t a) (h2 : a = false → EvB K G u b) : EvB K G (tOr t u) (a || b) := fun H0 Hs H σ E e Q q => h1 H0 Hs H σ E e _ fun Hs1 H1 g1 => by
  cases a with
  | true =>
    show Q true H1
    exact q Hs1 H1 g1
  | false =>
    show u σ H1 Q
    exact h2 rfl H0 Hs1 H1 σ E (e.grow g1) Q fun Hs2 H2 g2 => q Hs2 H2 (g1.trans g2)
theorem evb_not {a : Bool} (h1 : EvB K G t a) : EvB K G (tNot t) (!a) := fun H0 Hs H σ E e Q q => h1 H0 Hs H σ E e _ fun Hs1 H1 g1 => q Hs1 H1 g1
theorem EvB.to {a b : Bool} (h : EvB K G t a) (e : a = b) : EvB K G t b := e ▸ h
theorem evd_andV {a b : Bool} (h1 : EvD K G ta a) (h2 : a = true → EvD K G tb b) : EvD K G (tAndV ta tb) (a && b) := fun H0 Hs H σ E e Q q => h1 H0 Hs H σ E e _ fun v Hs1 H1 g1 r => ⟨a, r, by
  cases a with
  | true =>
    show tb σ H1 Q
    exact h2 rfl H0 Hs1 H1 σ E (e.grow g1) Q fun v Hs2 H2 g2 r => q v Hs2 H2 (g1.trans g2) r
  | false =>
    show Q (.bl false) H1
    exact q _ Hs1 H1 g1 rfl⟩
theorem evd_orV {a b : Bool} (h1 : EvD K G ta a) (h2 : a = false → EvD K G tb b) : EvD K G (tOrV ta tb) (a || b) := fun H0 Hs H σ E e Q q => h1 H0 Hs H σ E e _ fun v Hs1 H1 g1 r => ⟨a, r, by
  cases a with
  | true =>
    show Q (.bl true) H1
    exact q _ Hs1 H1 g1 rfl
  | false =>
    show tb σ H1 Q
    exact h2 rfl H0 Hs1 H1 σ E (e.grow g1) Q fun v Hs2 H2 g2 r => q v Hs2 H2 (g1.trans g2) r⟩
theorem evd_notV {a : Bool} (h1 : EvD K G ta a) : EvD K G (tNotV ta) (!a) := fun H0 Hs H σ E e Q q => h1 H0 Hs H σ E e _ fun v Hs1 H1 g1 r => ⟨a, r, q _ Hs1 H1 g1 rfl⟩
/-- a list's truth -/
def tTruV (K : KF) (ta : TE) : TT := fun σ H Q => ta σ H fun x H' => ∃ k, TruV K x H' k ∧ Q k H'
theorem evb_truL {l : List α} (h : EvL K G ta l) : EvB K G (tTruV K ta) (!l.isEmpty) := fun H0 Hs H σ E e Q q => h H0 Hs H σ E e _ fun a vs Hs' H' g h1 r =>
  ⟨!l.isEmpty, .inl ⟨vs, .inl (.inl h1), by cases vs <;> cases l <;> first | rfl | exact r.elim⟩, q Hs' H' g⟩
theorem evb_truB {b : Bool} (h : EvD K G ta b) : EvB K G (tTruV K ta) b := fun H0 Hs H σ E e Q q => h H0 Hs H σ E e _ fun v Hs' H' g r => by
  cases (show v = .bl b from r)
  exact ⟨b, rfl, q Hs' H' g⟩
/-- is None, is not None -/
theorem evd_isN [NN α] {o : Option α} (h : EvD K G ta o) : EvD K G (tOp (fun x y H Q => y = .non ∧ Q (.bl (decide (x = .non))) H) ta (tC .non)) o.isNone := fun H0 Hs H σ E e Q q =>
  h H0 Hs H σ E e _ fun v Hs' H' g r => ⟨rfl, q _ Hs' H' g (by
    cases o with
    | none => cases (show v = V.non from r); rfl
    | some x =>
      have n : v ≠ V.non := NN.nn (x := x) r
      show V.bl _ = V.bl false
      rw [decide_eq_false n])⟩
theorem evd_notN [NN α] {o : Option α} (h : EvD K G ta o) : EvD K G (tOp (fun x y H Q => y = .non ∧ Q (.bl (!decide (x = .non))) H) ta (tC .non)) o.isSome := fun H0 Hs H σ E e Q q =>
  h H0 Hs H σ E e _ fun v Hs' H' g r => ⟨rfl, q _ Hs' H' g (by
    cases o with
    | none => cases (show v = V.non from r); rfl
    | some x =>
      have n : v ≠ V.non := NN.nn (x := x) r
      show V.bl _ = V.bl true
      rw [decide_eq_false n]
      rfl)⟩
/-- a op1 b op2 c of ints -/
theorem evd_chain {f f' : Int → Int → Bool} {i j k : Int} (ha : EvD K G ta i) (hb : EvD K G tb j) (hc : EvD K G tc k) : EvD K G (tChain (rI0 fun i j => .bl (f i j)) (rI0 fun i j => .bl (f' i j)) ta tb tc) (f i j && f' j k) := fun H0 Hs H σ E e Q q =>
  two ha hb e fun u w Hs1 H1 g1 r1 r2 => by
    cases (show u = .int i from r1)
    cases (show w = .int j from r2)
    refine ⟨i, j, rfl, rfl, f i j, rfl, ?_⟩
    cases z : f i j with
    | true =>
      show tc σ H1 _
      exact hc H0 Hs1 H1 σ E (e.grow g1) _ fun u Hs2 H2 g2 r => ⟨j, k, rfl, r, q _ Hs2 H2 (g1.trans g2) (by rw [z]; rfl)⟩
    | false =>
      show Q (.bl false) H1
      exact q _ Hs1 H1 g1 (by rw [z]; rfl)
end
end BB

/-! comprehensions, calls, statements -/
namespace BB
open PySem PySem.Spec L2

/-! ### comprehensions -/
def wipeG (G : GEnv) : List Nat → GEnv
  | [] => G
  | v :: vs => (wipeG G vs).set v none
section
variable {K : KF} {H0 Hs H Hs' H' : Hp} {σ : L2.St} {G : GEnv} {E : List Addr}
theorem EnvOk.wipe (e : EnvOk K H0 Hs H σ G E) : ∀ vs : List Nat, EnvOk K H0 Hs H (L2.wipe σ vs) (wipeG G vs) E
  | [] => e
  | v :: vs => (EnvOk.wipe e vs).forget v none
theorem EnvOk.addE {D : Addr} (e : EnvOk K H0 Hs H σ G E) (g : Grow Hs H Hs' H') (h1 : H D = none) (h2 : Hs' D = none) (h3 : H' D ≠ none) : EnvOk K H0 Hs' H' σ G (D :: E) := by
  obtain ⟨F, f1, f2, f3, f4⟩ := e.own
  have hp : ∀ j, D ∉ F j := fun j z => (f3 D (.inr ⟨j, z⟩)).2.2 h1
  have old : ∀ a, (a ∈ E ∨ ∃ i, a ∈ F i) → Hs' a = none ∧ H0 a = none ∧ H' a ≠ none := fun a q => by
    obtain ⟨q1, q2, q3⟩ := f3 a q
    refine ⟨?_, q2, ?_⟩
    · cases z : Hs' a with
      | none => rfl
      | some o =>
        rcases g.new a o z with y | y
        · rw [q1] at y; cases y
        · exact absurd y q3
    · cases z : H a with
      | none => exact absurd z q3
      | some o => rw [g.h a o z]; simp
  refine ⟨e.h0.trans g.h, g.sub, e.len, F, f1, fun i a ha hE => ?_, fun a ha => ?_, fun i k hk => ?_⟩
  · rcases List.mem_cons.mp hE with z | z
    · exact hp i (z ▸ ha)
    · exact f2 i a ha z
  · rcases ha with ha | ha
    · rcases List.mem_cons.mp ha with z | z
      · subst z
        exact ⟨h2, e.h0.free h1, h3⟩
      · exact old a (.inl z)
    · exact old a (.inr ha)
  · obtain ⟨v, hv, hq⟩ := f4 i k hk
    refine ⟨v, hv, k.mono g.s (fun a ha => ?_) hq⟩
    obtain ⟨_, _, q3⟩ := f3 a (.inr ⟨i, ha⟩)
    cases y : H a with
    | none => exact absurd y q3
    | some o => exact g.h a o y
theorem EnvOk.inE {D : Addr} (e : EnvOk K H0 Hs H σ G E) (h : D ∈ E) : Hs D = none ∧ H0 D = none ∧ H D ≠ none := by
  obtain ⟨F, _, _, f3, _⟩ := e.own
  exact f3 D (.inl h)
theorem wipe_none {j : Nat} : ∀ {vs : List Nat} {σ : L2.St}, j ∈ vs → j < σ.length → (L2.wipe σ vs)[j]? = some none
  | v :: vs, σ, h, hl => by
    show ((L2.wipe σ vs).set v none)[j]? = _
    by_cases z : v = j
    · subst z
      exact List.getElem?_set_self (by rw [L2.wipe_length]; exact hl)
    · rw [List.getElem?_set_ne z]
      refine wipe_none ?_ hl
      rcases List.mem_cons.mp h with y | y
      · exact absurd y.symm z
      · exact y
theorem wipe_get : ∀ {vs : List Nat} {σ : L2.St} {i : Nat}, (L2.wipe σ vs)[i]? = if i < σ.length ∧ i ∈ vs then some none else σ[i]?
  | [], σ, i => by simp [L2.wipe]
  | v :: vs, σ, i => by
    show ((L2.wipe σ vs).set v none)[i]? = _
    by_cases z : v = i
    · subst z
      by_cases hl : v < σ.length
      · rw [List.getElem?_set_self (by rw [L2.wipe_length]; exact hl), if_pos ⟨hl, List.mem_cons_self⟩]
      · rw [if_neg (fun q => hl q.1), List.getElem?_eq_none (by rw [List.length_set, L2.wipe_length]; omega), List.getElem?_eq_none (by omega)]
    · rw [List.getElem?_set_ne z, wipe_get]
      have : (i ∈ v :: vs) ↔ i ∈ vs := by
        rw [List.mem_cons]
        exact ⟨fun q => q.elim (fun y => absurd y.symm z) id, .inr⟩
      simp only [this]
theorem wipe_set {j : Nat} {vs : List Nat} {σ : L2.St} {o : Option V} (h : j ∈ vs) : L2.wipe ((L2.wipe σ vs).set j o) vs = L2.wipe σ vs := by
  apply List.ext_getElem?
  intro i
  rw [wipe_get, wipe_get, List.length_set, L2.wipe_length]
  by_cases z : i < σ.length ∧ i ∈ vs
  · rw [if_pos z, if_pos z]
  · rw [if_neg z, if_neg z]
    by_cases y : j = i
    · subst y
      have hl : ¬ j < σ.length := fun q => z ⟨q, h⟩
      rw [List.getElem?_eq_none (by rw [List.length_set, L2.wipe_length]; omega), List.getElem?_eq_none (by omega)]
    · rw [List.getElem?_set_ne y, wipe_get, if_neg z]
theorem wipe_set2 {j k : Nat} {vs : List Nat} {σ : L2.St} {o o' : Option V} (h : j ∈ vs) (h' : k ∈ vs) : L2.wipe (((L2.wipe σ vs).set j o).set k o') vs = L2.wipe σ vs := by
  apply List.ext_getElem?
  intro i
  rw [wipe_get, wipe_get, List.length_set, List.length_set, L2.wipe_length]
  by_cases z : i < σ.length ∧ i ∈ vs
  · rw [if_pos z, if_pos z]
  · rw [if_neg z, if_neg z]
    have hj : i ∈ vs → ¬ i < σ.length := fun q y => z ⟨y, q⟩
    by_cases hl : i < σ.length
    · have hn : i ∉ vs := fun q => hj q hl
      rw [List.getElem?_set_ne (show k ≠ i from fun y => hn (y ▸ h')), List.getElem?_set_ne (show j ≠ i from fun y => hn (y ▸ h)), wipe_get, if_neg z]
    · rw [List.getElem?_eq_none (by rw [List.length_set, List.length_set, L2.wipe_length]; omega), List.getElem?_eq_none (by omega)]
end

section
variable {α β γ : Type} [Rep α] [Rep β] [Rep γ] {K : KF} {G : GEnv} {ta tb tc te tl tn : TE} {t u : TT}
theorem evb_yes : EvB K G tYes true := fun H0 Hs H σ E e Q q => q Hs H (Grow.refl e.sub)
/-- what holds of the new list at D while it is made -/
def Mk (K : KF) (Hs1 H1 : Hp) (D : Addr) (l : List γ) (H' : Hp) : Prop := ∃ Hs' acc, Grow Hs1 H1 Hs' H' ∧ Hs' D = none ∧ H' D = some (.lst acc) ∧ All2 (Rep.rep K Hs') acc l
theorem mk_turn {H0 Hs1 H1 H' : Hp} {σ2 : L2.St} {G2 : GEnv} {E : List Addr} {D : Addr} {l : List γ} {b0 : Bool} {y : γ} (hD : H1 D = none) (p : Mk K Hs1 H1 D l H') (he : ∀ Hs', Grow Hs1 H1 Hs' H' → Hs' D = none → H' D ≠ none → EnvOk K H0 Hs' H' σ2 G2 (D :: E)) (hl : l.length < 100000)
    (ht : EvB K G2 t b0) (hy : b0 = true → EvD K G2 te y) :
    t σ2 H' fun b H3 => if b = true then te σ2 H3 fun v H4 => ∃ acc, H4 D = some (.lst acc) ∧ acc.length < sizeLine ∧ Mk K Hs1 H1 D (if b0 = true then l ++ [y] else l) (upd H4 D (.lst (acc ++ [v]))) else Mk K Hs1 H1 D (if b0 = true then l ++ [y] else l) H3 := by
  obtain ⟨Hs', acc, g, q1, q2, q3⟩ := p
  have e := he Hs' g q1 (by rw [q2]; simp)
  refine ht H0 Hs' H' σ2 _ e _ fun Hs3 H3 g3 => ?_
  have e3 := e.grow g3
  cases b0 with
  | false =>
    show Mk K Hs1 H1 D l H3
    exact ⟨Hs3, acc, g.trans g3, (e3.inE List.mem_cons_self).1, g3.h _ _ q2, q3.imp fun _ _ r => Rep.mono g3.s r⟩
  | true =>
    show te σ2 H3 _
    refine hy rfl H0 Hs3 H3 σ2 _ e3 _ fun v Hs4 H4 g4 r4 => ?_
    have e4 := e3.grow g4
    have g' := (g.trans g3).trans g4
    have hn : Hs4 D = none := (e4.inE List.mem_cons_self).1
    refine ⟨acc, g4.h _ _ (g3.h _ _ q2), Nat.lt_of_lt_of_le (by rw [q3.len]; exact hl) (show 100000 ≤ sizeLine by decide), Hs4, acc ++ [v], ⟨g'.s, fun a o ha => ?_, fun a o ha => ?_, g'.new⟩, hn, upd_same, ?_⟩
    · rw [upd_ne (ne_of_none ha hD)]
      exact g'.h a o ha
    · rw [upd_ne (ne_of_none ha hn)]
      exact g'.sub a o ha
    · show All2 _ (acc ++ [v]) (l ++ [y])
      exact (q3.imp fun _ _ r => Rep.mono (g3.s.trans g4.s) r).app ⟨r4, trivial⟩
theorem snoc_range (c : Nat → Bool) (f : Nat → γ) (i : Nat) : ((List.range (i + 1)).filter c).map f = if c i = true then ((List.range i).filter c).map f ++ [f i] else ((List.range i).filter c).map f := by
  rw [List.range_succ, List.filter_append, List.map_append]
  cases z : c i <;> simp [z]
/-- [e for k in range(n) if c] -/
theorem evn_lcR {j : Nat} {vs : List Nat} {n : Nat} (c : Nat → Bool) (f : Nat → γ) (h : EvD K G tn n) (hn : n < 100000) (hj : j ∈ vs)
    (ht : ∀ k, k < n → EvB K ((wipeG G vs).set j (pureS k)) t (c k)) (he : ∀ k, k < n → c k = true → EvD K ((wipeG G vs).set j (pureS k)) te (f k)) :
    EvN K G (tLc (iRng1 (tCons tn tNil)) (gName j) t te vs) (((List.range n).filter c).map f) := fun H0 Hs H σ E e Q q =>
  h H0 Hs H σ E e _ fun v Hs1 H1 g1 r1 => by
    cases (show v = .int (n : Int) from r1)
    refine ⟨n, rfl, by omega, by omega, fun D hD => ?_⟩
    have e1 := e.grow g1
    refine lc_range (lo := 0) (n := ((n : Int) : Int).toNat) (fun i H' => Mk K Hs1 H1 D (((List.range i).filter c).map f) H') ?_ (fun i H' hi p => ?_) (fun H' p => ?_)
    · exact ⟨Hs1, [], Grow.newO g1.sub hD, g1.sub.free hD, upd_same, trivial⟩
    · have e0 : (0 : Int) + (i : Int) = (i : Int) := Int.zero_add _
      have hi' : i < n := by simpa using hi
      show L2.wipe ((L2.wipe σ vs).set j (some (.int ((0 : Int) + (i : Int))))) vs = L2.wipe σ vs ∧ _
      refine ⟨wipe_set hj, ?_⟩
      show t ((L2.wipe σ vs).set j (some (.int ((0 : Int) + (i : Int))))) H' fun b H3 => if b = true then te ((L2.wipe σ vs).set j (some (.int ((0 : Int) + (i : Int))))) H3 _ else _
      rw [e0]
      have key := mk_turn (H0 := H0) (σ2 := (L2.wipe σ vs).set j (some (.int (i : Int)))) (E := E) (G2 := (wipeG G vs).set j (pureS i)) hD p (fun Hs' g z1 z2 => ((e1.addE g hD z1 z2).wipe vs).setP j rfl) (by
          rw [List.length_map]
          exact Nat.lt_of_le_of_lt (List.length_filter_le _ _) (by rw [List.length_range]; omega)) (ht i hi') (fun hc => he i hi' hc)
      rw [snoc_range]
      exact key
    · obtain ⟨Hs', acc, g, z1, z2, z3⟩ := p
      exact q D acc Hs' H' (g1.trans g) (g1.h.free hD) z1 z2 (by simpa using z3)
theorem EvN.to {l l' : List γ} (h : EvN K G te l) (e : l = l') : EvN K G te l' := e ▸ h
theorem evn_lcR0 {j : Nat} {vs : List Nat} {n : Nat} (f : Nat → γ) (h : EvD K G tn n) (hn : n < 100000) (hj : j ∈ vs) (he : ∀ k, k < n → EvD K ((wipeG G vs).set j (pureS k)) te (f k)) :
    EvN K G (tLc (iRng1 (tCons tn tNil)) (gName j) tYes te vs) ((List.range n).map f) :=
  (evn_lcR (fun _ => true) f h hn hj (fun _ _ => evb_yes) (fun k hk _ => he k hk)).to (by rw [List.filter_eq_self.mpr (fun _ _ => rfl)])
theorem snoc_take {l : List α} {i : Nat} {x : α} (c : α → Bool) (f : α → γ) (h : l[i]? = some x) : ((l.take (i + 1)).filter c).map f = if c x = true then ((l.take i).filter c).map f ++ [f x] else ((l.take i).filter c).map f := by
  rw [List.take_add_one, h, List.filter_append, List.map_append]
  cases z : c x <;> simp [z]
/-- [e for x in l if c] -/
theorem evn_lcL {j : Nat} {vs : List Nat} {l : List α} (c : α → Bool) (f : α → γ) (h : EvL K G tl l) (hn : l.length < 100000) (hj : j ∈ vs)
    (ht : ∀ (i : Nat) x, l[i]? = some x → EvB K ((wipeG G vs).set j (pureS x)) t (c x)) (he : ∀ (i : Nat) x, l[i]? = some x → c x = true → EvD K ((wipeG G vs).set j (pureS x)) te (f x)) :
    EvN K G (tLc (iList K tl) (gName j) t te vs) ((l.filter c).map f) := fun H0 Hs H σ E e Q q =>
  h H0 Hs H σ E e _ fun a ws Hs1 H1 g1 ha r1 => by
    have e1 := e.grow g1
    refine ⟨a, rfl, ⟨ws, .inl (.inl ha)⟩, fun D hD => ?_⟩
    refine lc_list (xs := ws) (fun i H' => Mk K Hs1 H1 D (((l.take i).filter c).map f) H') ?_ (fun i H' _ p => ?_) (fun i v H' hv p => ?_) (fun H' p => ?_)
    · exact ⟨Hs1, [], Grow.newO g1.sub hD, g1.sub.free hD, upd_same, by simp [All2]⟩
    · obtain ⟨_, _, g, _⟩ := p
      exact .inl (.inl (g.h _ _ ha))
    · obtain ⟨x, hx, rx⟩ := r1.getL hv
      have hi := (List.getElem?_eq_some_iff.mp hx).1
      have key := mk_turn (H0 := H0) (σ2 := (L2.wipe σ vs).set j (some v)) (E := E) (G2 := (wipeG G vs).set j (pureS x)) hD p (fun Hs' g z1 z2 => ((e1.addE g hD z1 z2).wipe vs).setP j (Rep.mono g.s rx)) (by
          rw [List.length_map]
          exact Nat.lt_of_le_of_lt (List.length_filter_le _ _) (by rw [List.length_take]; omega)) (ht i x hx) (fun hc => he i x hx hc)
      rw [snoc_take c f hx]
      exact ⟨wipe_set hj, key⟩
    · obtain ⟨Hs', acc, g, z1, z2, z3⟩ := p
      exact q D acc Hs' H' (g1.trans g) (g1.h.free hD) z1 z2 (by rw [r1.len, List.take_length] at z3; exact z3)
theorem evn_lcL0 {j : Nat} {vs : List Nat} {l : List α} (f : α → γ) (h : EvL K G tl l) (hn : l.length < 100000) (hj : j ∈ vs) (he : ∀ (i : Nat) x, l[i]? = some x → EvD K ((wipeG G vs).set j (pureS x)) te (f x)) :
    EvN K G (tLc (iList K tl) (gName j) tYes te vs) (l.map f) :=
  (evn_lcL (fun _ => true) f h hn hj (fun _ _ _ => evb_yes) (fun i x hx _ => he i x hx)).to (by rw [List.filter_eq_self.mpr (fun _ _ => rfl)])
/-- [e for a, b in l] -/
theorem evn_lcP {j k : Nat} {vs : List Nat} {l : List (α × β)} (f : α × β → γ) (h : EvL K G tl l) (hn : l.length < 100000) (hj : j ∈ vs) (hk : k ∈ vs)
    (he : ∀ (i : Nat) x, l[i]? = some x → EvD K (((wipeG G vs).set j (pureS x.1)).set k (pureS x.2)) te (f x)) :
    EvN K G (tLc (iList K tl) (gTup K 2 (gCons (gName j) (gCons (gName k) gNil))) tYes te vs) (l.map f) := fun H0 Hs H σ E e Q q =>
  h H0 Hs H σ E e _ fun a ws Hs1 H1 g1 ha r1 => by
    have e1 := e.grow g1
    refine ⟨a, rfl, ⟨ws, .inl (.inl ha)⟩, fun D hD => ?_⟩
    refine lc_list (xs := ws) (fun i H' => Mk K Hs1 H1 D (((l.take i).filter fun _ => true).map f) H') ?_ (fun i H' _ p => ?_) (fun i v H' hv p => ?_) (fun H' p => ?_)
    · exact ⟨Hs1, [], Grow.newO g1.sub hD, g1.sub.free hD, upd_same, by simp [All2]⟩
    · obtain ⟨_, _, g, _⟩ := p
      exact .inl (.inl (g.h _ _ ha))
    · obtain ⟨x, hx, rx⟩ := r1.getL hv
      have hi := (List.getElem?_eq_some_iff.mp hx).1
      obtain ⟨b, u, w, rfl, ht, h1, h2⟩ := rx
      have key := mk_turn (t := tYes) (b0 := true) (H0 := H0) (σ2 := ((L2.wipe σ vs).set j (some u)).set k (some w)) (E := E) (G2 := ((wipeG G vs).set j (pureS x.1)).set k (pureS x.2)) hD p (fun Hs' g z1 z2 => ((((e1.addE g hD z1 z2).wipe vs).setP j (Rep.mono g.s h1)).setP k (Rep.mono g.s h2))) (by
          rw [List.length_map]
          exact Nat.lt_of_le_of_lt (List.length_filter_le _ _) (by rw [List.length_take]; omega)) evb_yes (fun _ => he i x hx)
      obtain ⟨Hs', _, g, _⟩ := p
      rw [snoc_take (fun _ => true) f hx]
      exact ⟨b, [u, w], rfl, same_t (g.s.trans g.sub) ht, rfl, u, [w], rfl, w, [], rfl, rfl, wipe_set2 hj hk, key⟩
    · obtain ⟨Hs', acc, g, z1, z2, z3⟩ := p
      exact q D acc Hs' H' (g1.trans g) (g1.h.free hD) z1 z2 (by rw [r1.len, List.take_length, List.filter_eq_self.mpr (fun _ _ => rfl)] at z3; exact z3)
end
end BB

/-! calls, fields, statements -/
namespace BB
open PySem PySem.Spec L2

/-- what a def hands back: K, the heap at its entry, the stable part and the heap at its end, the value -/
abbrev RetK := KF → Hp → Hp → Hp → V → Prop
def RetV {β : Type} [Rep β] (y : β) : RetK := fun K _ Hs' _ v => Rep.rep K Hs' v y
/-- a new list, nobody else's -/
def RetL {β : Type} [Rep β] (l : List β) : RetK := fun K H0 Hs' H' v => ∃ p vs, v = .ref p ∧ H0 p = none ∧ Hs' p = none ∧ H' p = some (.lst vs) ∧ All2 (Rep.rep K Hs') vs l
/-- a def's promise -/
def spR {A : Type} (args : A → List Dyn) (pre : A → Prop) (r : A → RetK) (K : KF) : Sp := fun vs H Q _ => ∃ Hs a, Same Hs H ∧ RepL K Hs vs (args a) ∧ pre a ∧ ∀ v Hs' H', Grow Hs H Hs' H' → r a K H Hs' H' v → Q v H'
structure Post where
  nx : GEnv → Prop
  rt : RetK
  bk : GEnv → Prop := fun _ => False
  ct : GEnv → Prop := fun _ => False
structure PostOk (K : KF) (Hs0 H0 : Hp) (E : List Addr) (D : Post) (De : Ends) : Prop where
  nx : ∀ G' σ' Hs' H', D.nx G' → EnvOk K H0 Hs' H' σ' G' E → Grow Hs0 H0 Hs' H' → De.nx σ' H'
  rt : ∀ v Hs' H', Grow Hs0 H0 Hs' H' → D.rt K H0 Hs' H' v → De.rt v H'
  bk : ∀ G' σ' Hs' H', D.bk G' → EnvOk K H0 Hs' H' σ' G' E → Grow Hs0 H0 Hs' H' → De.bk σ' H'
  ct : ∀ G' σ' Hs' H', D.ct G' → EnvOk K H0 Hs' H' σ' G' E → Grow Hs0 H0 Hs' H' → De.ct σ' H'
def StD (K : KF) (G : GEnv) (t : TS) (D : Post) : Prop :=
  ∀ Hs0 H0 Hs H σ E, EnvOk K H0 Hs H σ G E → Grow Hs0 H0 Hs H → ∀ De : Ends, PostOk K Hs0 H0 E D De → t De σ H

section
variable {α β γ δ : Type} [Rep α] [Rep β] [Rep γ] [Rep δ] {K : KF} {G : GEnv} {ta tb tc te tl tn : TE} {c : TT} {t u : TS} {D : Post} {g : TG}

/-! ### calls -/
theorem evd_call {A : Type} {args : A → List Dyn} {pre : A → Prop} {f : A → β} {ta : TA} {X : XK} (a : A) (h : EvA K G ta (args a)) (hp : pre a) : EvD K G (tCall (spR args pre (fun a => RetV (f a)) K) [] X ta) (f a) := fun H0 Hs H σ E e Q q =>
  h H0 Hs H σ E e _ fun vs Hs1 H1 g1 r1 => ⟨Hs1, a, g1.sub, by rw [List.append_nil]; exact r1, hp, fun v Hs2 H2 g2 r2 => q v Hs2 H2 (g1.trans g2) r2⟩
theorem evn_call {A : Type} {args : A → List Dyn} {pre : A → Prop} {f : A → List β} {ta : TA} {X : XK} (a : A) (h : EvA K G ta (args a)) (hp : pre a) : EvN K G (tCall (spR args pre (fun a => RetL (f a)) K) [] X ta) (f a) := fun H0 Hs H σ E e Q q =>
  h H0 Hs H σ E e _ fun vs Hs1 H1 g1 r1 => ⟨Hs1, a, g1.sub, by rw [List.append_nil]; exact r1, hp, fun v Hs2 H2 g2 ⟨p, ws, hv, z1, z2, z3, z4⟩ => by
    subst hv
    exact q p ws Hs2 H2 (g1.trans g2) (g1.h.free z1) z2 z3 z4⟩

/-! ### targets -/
def GD (K : KF) (G : GEnv) (g : TG) (x : α) (G' : GEnv) : Prop :=
  ∀ H0 Hs H σ E v, EnvOk K H0 Hs H σ G E → Rep.rep K Hs v x → ∀ Q : L2.St → Hp → Prop, (∀ σ', EnvOk K H0 Hs H σ' G' E → Q σ' H) → g v σ H Q
theorem gd_name {j : Nat} {x : α} : GD K G (gName j) x (G.set j (pureS x)) := fun H0 Hs H σ E v e r Q q => q _ (e.setP j r)
theorem gd_tup2 {g1 g2 : TG} {G1 G2 : GEnv} {x : α × β} (h1 : GD K G g1 x.1 G1) (h2 : GD K G1 g2 x.2 G2) : GD K G (gTup K 2 (gCons g1 (gCons g2 gNil))) x G2 := fun H0 Hs H σ E v e r Q q => by
  obtain ⟨b, u, w, rfl, ht, r1, r2⟩ := r
  exact ⟨b, [u, w], rfl, same_t e.sub ht, rfl, u, [w], rfl, h1 H0 Hs H σ E u e r1 _ fun σ1 e1 => ⟨w, [], rfl, h2 H0 Hs H σ1 E w e1 r2 _ fun σ2 e2 => ⟨rfl, q σ2 e2⟩⟩⟩
theorem gd_tup3 {g1 g2 g3 : TG} {G1 G2 G3 : GEnv} {x : T3 α β γ} (h1 : GD K G g1 x.a G1) (h2 : GD K G1 g2 x.b G2) (h3 : GD K G2 g3 x.c G3) : GD K G (gTup K 3 (gCons g1 (gCons g2 (gCons g3 gNil)))) x G3 := fun H0 Hs H σ E v e r Q q => by
  obtain ⟨b, u, w, z, rfl, ht, r1, r2, r3⟩ := r
  exact ⟨b, [u, w, z], rfl, same_t e.sub ht, rfl, u, [w, z], rfl, h1 H0 Hs H σ E u e r1 _ fun σ1 e1 => ⟨w, [z], rfl, h2 H0 Hs H σ1 E w e1 r2 _ fun σ2 e2 => ⟨z, [], rfl, h3 H0 Hs H σ2 E z e2 r3 _ fun σ3 e3 => ⟨rfl, q σ3 e3⟩⟩⟩⟩

/-! ### statements -/
theorem st_next (h : D.nx G) : StD K G tNext D := fun Hs0 H0 Hs H σ E e g0 De p => p.nx G σ Hs H h e g0
theorem st_brk (h : D.bk G) : StD K G tBreak D := fun Hs0 H0 Hs H σ E e g0 De p => p.bk G σ Hs H h e g0
theorem st_seq (h : StD K G t { D with nx := fun G' => StD K G' u D }) : StD K G (tSeq t u) D := fun Hs0 H0 Hs H σ E e g0 De p =>
  h Hs0 H0 Hs H σ E e g0 _ ⟨fun G' σ' Hs' H' q e' g' => q Hs0 H0 Hs' H' σ' E e' g' De p, p.rt, p.bk, p.ct⟩
/-- a word between a statement and what follows -/
theorem st_mid (M : GEnv → Prop) (h : StD K G t { D with nx := M }) (k : ∀ G', M G' → StD K G' u D) : StD K G (tSeq t u) D := fun Hs0 H0 Hs H σ E e g0 De p =>
  h Hs0 H0 Hs H σ E e g0 _ ⟨fun G' σ' Hs' H' q e' g' => k G' q Hs0 H0 Hs' H' σ' E e' g' De p, p.rt, p.bk, p.ct⟩
theorem st_asg {x : α} {G' : GEnv} (h : EvD K G te x) (hg : GD K G g x G') (k : D.nx G') : StD K G (tAsg te g) D := fun Hs0 H0 Hs H σ E e g0 De p =>
  h H0 Hs H σ E e _ fun v Hs1 H1 g1 r1 => hg H0 Hs1 H1 σ E v (e.grow g1) r1 _ fun σ' e' => p.nx G' σ' Hs1 H1 k e' (g0.trans g1)
theorem st_set {x : α} {i : Nat} (h : EvD K G te x) (k : D.nx (G.set i (pureS x))) : StD K G (tAsg te (gName i)) D := st_asg h gd_name k
theorem st_own {l : List α} {i : Nat} (h : EvN K G te l) (k : D.nx (G.set i (ownS l))) : StD K G (tAsg te (gName i)) D := fun Hs0 H0 Hs H σ E e g0 De p =>
  h H0 Hs H σ E e _ fun q vs Hs1 H1 g1 h1 h2 h3 h4 => p.nx _ _ Hs1 H1 k (e.setO g1 i h1 h2 h3 h4) (g0.trans g1)
theorem st_freeze {l : List α} (i : Nat) (h : G[i]? = some (ownS l)) (k : StD K (G.set i (pureS l)) t D) : StD K G t D := fun Hs0 H0 Hs H σ E e g0 De p => by
  obtain ⟨Hs', g', e'⟩ := e.freeze g0 h
  exact k Hs0 H0 Hs' H σ E e' g' De p
/-- a change of an owned list leaves what stood at the entry -/
theorem grow_mut {Hs0 H0 Hs H : Hp} {a : Addr} {o : HO} (g : Grow Hs0 H0 Hs H) (h1 : Hs a = none) (h2 : H0 a = none) : Grow Hs0 H0 Hs (upd H a o) :=
  ⟨g.s, fun b u q => by rw [upd_ne (ne_of_none q h2)]; exact g.h b u q, fun b u q => by rw [upd_ne (ne_of_none q h1)]; exact g.sub b u q, g.new⟩
theorem st_app {l : List α} {x : α} {i : Nat} (hi : G[i]? = some (ownS l)) (h : EvD K G te x) (hl : l.length < 100000) (k : D.nx (G.set i (ownS (l ++ [x])))) :
    StD K G (tDrop (tBM K "list" rAppend (tVar i) (tCons te tNil))) D := fun Hs0 H0 Hs H σ E e g0 De p => by
  obtain ⟨a, vs, ha, h1, _, _, r⟩ := e.owned hi
  refine ⟨.ref a, ha, .inl ⟨rfl, vs, .inl (.inl h1)⟩, h H0 Hs H σ E e _ fun v Hs1 H1 g1 r1 => ?_⟩
  have e1 := e.grow g1
  obtain ⟨a', vs', ha', h1', z1, z2, r'⟩ := e1.owned hi
  rw [ha] at ha'
  cases ha'
  exact ⟨a, vs', v, rfl, rfl, h1', Nat.lt_of_lt_of_le (by rw [r'.len]; exact hl) (show 100000 ≤ sizeLine by decide), p.nx _ _ Hs1 _ k (e1.mutO hi ha (r'.app ⟨r1, trivial⟩)) (grow_mut (g0.trans g1) z1 z2)⟩
theorem st_put {l : List α} {x : α} {i k : Nat} (hi : G[i]? = some (ownS l)) (h : EvD K G te x) (hk : EvD K G tn k) (hl : k < l.length) (q : D.nx (G.set i (ownS (l.set k x)))) :
    StD K G (tAsg te (gSub (tVar i) tn rSetL)) D := fun Hs0 H0 Hs H σ E e g0 De p =>
  h H0 Hs H σ E e _ fun v Hs1 H1 g1 r1 => by
    have e1 := e.grow g1
    obtain ⟨a, vs, ha, _⟩ := e1.owned hi
    refine ⟨.ref a, ha, hk H0 Hs1 H1 σ E e1 _ fun w Hs2 H2 g2 r2 => ?_⟩
    have e2 := e1.grow g2
    obtain ⟨a', vs', ha', h1', z1, z2, r'⟩ := e2.owned hi
    rw [ha] at ha'
    cases ha'
    cases (show w = .int (k : Int) from r2)
    refine ⟨a, vs', k, k, rfl, rfl, h1', ?_, p.nx _ _ Hs2 _ q (e2.mutO hi ha (r'.set (Rep.mono g2.s r1) k)) (grow_mut ((g0.trans g1).trans g2) z1 z2)⟩
    have hn := r'.len
    unfold ixN
    rw [if_pos (by omega), if_pos (by omega)]
    rfl
theorem st_if {b : Bool} (h : EvB K G c b) (h1 : b = true → StD K G t D) (h2 : b = false → StD K G u D) : StD K G (tIfS c t u) D := fun Hs0 H0 Hs H σ E e g0 De p =>
  h H0 Hs H σ E e _ fun Hs1 H1 g1 => by
    cases b with
    | true =>
      show t De σ H1
      exact h1 rfl Hs0 H0 Hs1 H1 σ E (e.grow g1) (g0.trans g1) De p
    | false =>
      show u De σ H1
      exact h2 rfl Hs0 H0 Hs1 H1 σ E (e.grow g1) (g0.trans g1) De p
theorem st_ret {x y : β} (h : EvD K G te x) (hD : D.rt = RetV y) (e : x = y) : StD K G (tRet te) D := fun Hs0 H0 Hs H σ E ev g0 De p =>
  h H0 Hs H σ E ev _ fun v Hs1 H1 g1 r1 => p.rt v Hs1 H1 (g0.trans g1) (by rw [hD, ← e]; exact r1)
theorem st_retO {l l' : List β} {i : Nat} (hi : G[i]? = some (ownS l)) (hD : D.rt = RetL l') (e : l = l') : StD K G (tRet (tVar i)) D := fun Hs0 H0 Hs H σ E ev g0 De p => by
  obtain ⟨a, vs, ha, h1, z1, z2, r⟩ := ev.owned hi
  exact ⟨.ref a, ha, p.rt _ Hs H g0 (by rw [hD, ← e]; exact ⟨a, vs, rfl, z2, z1, h1, r⟩)⟩
theorem st_retN {l l' : List β} (h : EvN K G te l) (hD : D.rt = RetL l') (e : l = l') : StD K G (tRet te) D := fun Hs0 H0 Hs H σ E ev g0 De p =>
  h H0 Hs H σ E ev _ fun q vs Hs1 H1 g1 h1 h2 h3 h4 => p.rt _ Hs1 H1 (g0.trans g1) (by rw [hD, ← e]; exact ⟨q, vs, rfl, g0.h.free h1, h2, h3, h4⟩)
/-- for k in range(n) -/
theorem st_forR {j n : Nat} (I : Nat → GEnv → Prop) (h : EvD K G tn n) (hn : n < 2 ^ 60) (h0 : I 0 G) (hs : ∀ (i : Nat) G', i < n → I i G' → StD K (G'.set j (pureS i)) t { D with nx := I (i + 1), ct := I (i + 1), bk := D.nx }) (hd : ∀ G', I n G' → D.nx G') :
    StD K G (tFor (iRng1 (tCons tn tNil)) (gName j) t) D := fun Hs0 H0 Hs H σ E e g0 De p =>
  h H0 Hs H σ E e _ fun v Hs1 H1 g1 r1 => by
    cases (show v = .int (n : Int) from r1)
    refine ⟨n, rfl, by omega, by omega, ?_⟩
    refine for_range (lo := 0) (n := ((n : Nat) : Int).toNat) (fun i σ' H' => ∃ G' Hs', I i G' ∧ EnvOk K H0 Hs' H' σ' G' E ∧ Grow Hs0 H0 Hs' H') ⟨G, Hs1, h0, e.grow g1, g0.trans g1⟩ (fun i σ' H' hi hp => ?_) fun σ' H' hp => ?_
    · obtain ⟨G', Hs', q, e', g'⟩ := hp
      have e0 : (0 : Int) + (i : Int) = (i : Int) := Int.zero_add _
      show t _ (σ'.set j (some (.int ((0 : Int) + (i : Int))))) H'
      rw [e0]
      refine hs i G' (by simpa using hi) q Hs0 H0 Hs' H' _ E (e'.setP j rfl) g' _ ⟨fun G2 σ2 Hs2 H2 z1 z2 z3 => ⟨G2, Hs2, z1, z2, z3⟩, p.rt, fun G2 σ2 Hs2 H2 z1 z2 z3 => p.nx G2 σ2 Hs2 H2 z1 z2 z3, fun G2 σ2 Hs2 H2 z1 z2 z3 => ⟨G2, Hs2, z1, z2, z3⟩⟩
    · obtain ⟨G', Hs', q, e', g'⟩ := hp
      exact p.nx G' σ' Hs' H' (hd G' (by simpa using q)) e' g'
/-- for .. in l (a list that stands still) -/
theorem st_forL {l : List α} (I : Nat → GEnv → Prop) (h : EvD K G tl l) (h0 : I 0 G) (hs : ∀ (i : Nat) x G', l[i]? = some x → I i G' → ∃ G2, GD K G' g x G2 ∧ StD K G2 t { D with nx := I (i + 1), ct := I (i + 1), bk := D.nx })
    (hd : ∀ G', I l.length G' → D.nx G') : StD K G (tFor (iList K tl) g t) D := fun Hs0 H0 Hs H σ E e g0 De p =>
  h H0 Hs H σ E e _ fun v Hs1 H1 g1 r1 => by
    obtain ⟨a, vs, rfl, ha, r⟩ := r1
    refine ⟨a, rfl, ⟨vs, .inl (.inl (g1.sub _ _ ha))⟩, ?_⟩
    refine for_list (xs := vs) (fun i σ' H' => ∃ G' Hs', I i G' ∧ EnvOk K H0 Hs' H' σ' G' E ∧ Grow Hs0 H0 Hs' H' ∧ Same Hs1 Hs') ⟨G, Hs1, h0, e.grow g1, g0.trans g1, Same.refl _⟩ (fun i σ' H' _ hp => ?_) (fun i v σ' H' hv hp => ?_) fun σ' H' hp => ?_
    · obtain ⟨G', Hs', q, e', g', s'⟩ := hp
      exact .inl (.inl (g'.sub _ _ (s' _ _ ha)))
    · obtain ⟨G', Hs', q, e', g', s'⟩ := hp
      obtain ⟨x, hx, rx⟩ := r.getL hv
      obtain ⟨G2, hg, hb⟩ := hs i x G' hx q
      refine hg H0 Hs' H' σ' E v e' (Rep.mono s' rx) _ fun σ2 e2 => ?_
      have gb := g0.trans g1
      have back : ∀ {Hs3 H3 : Hp}, Grow Hs1 H0 Hs3 H3 → Grow Hs0 H0 Hs3 H3 := fun z3 => ⟨gb.s.trans z3.s, z3.h, z3.sub, fun b o q => by
        rcases z3.new b o q with z | z
        · exact gb.new b o z
        · exact .inr z⟩
      exact hb Hs1 H0 Hs' H' σ2 E e2 ⟨s', g'.h, g'.sub, fun b o q => by
        rcases g'.new b o q with z | z
        · exact .inl (gb.s b o z)
        · exact .inr z⟩ _ ⟨fun G3 σ3 Hs3 H3 z1 z2 z3 => ⟨G3, Hs3, z1, z2, back z3, z3.s⟩, fun v Hs3 H3 z3 z => p.rt v Hs3 H3 (back z3) z, fun G3 σ3 Hs3 H3 z1 z2 z3 => p.nx G3 σ3 Hs3 H3 z1 z2 (back z3),
          fun G3 σ3 Hs3 H3 z1 z2 z3 => ⟨G3, Hs3, z1, z2, back z3, z3.s⟩⟩
    · obtain ⟨G', Hs', q, e', g', s'⟩ := hp
      rw [r.len] at q
      exact p.nx G' σ' Hs' H' (hd G' q) e' g'
/-- for .. in (x, y, ..), a tuple of two just made -/
theorem st_forT {x y : α} (I : Nat → GEnv → Prop) (h : EvD K G tl (x, y)) (h0 : I 0 G) (h1 : ∀ G', I 0 G' → ∃ G2, GD K G' g x G2 ∧ StD K G2 t { D with nx := I 1, ct := I 1, bk := D.nx })
    (h2 : ∀ G', I 1 G' → ∃ G2, GD K G' g y G2 ∧ StD K G2 t { D with nx := I 2, ct := I 2, bk := D.nx }) (hd : ∀ G', I 2 G' → D.nx G') : StD K G (tFor (iTup K tl) g t) D := fun Hs0 H0 Hs H σ E e g0 De p =>
  h H0 Hs H σ E e _ fun v Hs1 H1 g1 r1 => by
    obtain ⟨a, u, w, rfl, ha, ru, rw'⟩ := r1
    refine ⟨a, rfl, ⟨[u, w], same_t g1.sub ha⟩, ?_⟩
    have gb := g0.trans g1
    have back : ∀ {Hs3 H3 : Hp}, Grow Hs1 H0 Hs3 H3 → Grow Hs0 H0 Hs3 H3 := fun z3 => ⟨gb.s.trans z3.s, z3.h, z3.sub, fun b o q => by
      rcases z3.new b o q with z | z
      · exact gb.new b o z
      · exact .inr z⟩
    refine for_tup (xs := [u, w]) (fun i σ' H' => ∃ G' Hs', I i G' ∧ EnvOk K H0 Hs' H' σ' G' E ∧ Grow Hs0 H0 Hs' H' ∧ Same Hs1 Hs') ⟨G, Hs1, h0, e.grow g1, g0.trans g1, Same.refl _⟩ (fun i σ' H' _ hp => ?_) (fun i v σ' H' hv hp => ?_) fun σ' H' hp => ?_
    · obtain ⟨G', Hs', q, e', g', s'⟩ := hp
      exact same_t (s'.trans g'.sub) ha
    · obtain ⟨G', Hs', q, e', g', s'⟩ := hp
      have go : ∀ {j : Nat} {z : α} {G2 : GEnv}, Rep.rep K Hs1 v z → GD K G' g z G2 → StD K G2 t { D with nx := I (j + 1), ct := I (j + 1), bk := D.nx } →
          g v σ' H' fun σ2 H2 => t { De with nx := fun σ' H' => ∃ G' Hs', I (j + 1) G' ∧ EnvOk K H0 Hs' H' σ' G' E ∧ Grow Hs0 H0 Hs' H' ∧ Same Hs1 Hs', ct := fun σ' H' => ∃ G' Hs', I (j + 1) G' ∧ EnvOk K H0 Hs' H' σ' G' E ∧ Grow Hs0 H0 Hs' H' ∧ Same Hs1 Hs', bk := De.nx } σ2 H2 := fun {j z G2} rz hg hb =>
        hg H0 Hs' H' σ' E v e' (Rep.mono s' rz) _ fun σ2 e2 => hb Hs1 H0 Hs' H' σ2 E e2 ⟨s', g'.h, g'.sub, fun b o q => by
          rcases g'.new b o q with z | z
          · exact .inl (gb.s b o z)
          · exact .inr z⟩ _ ⟨fun G3 σ3 Hs3 H3 z1 z2 z3 => ⟨G3, Hs3, z1, z2, back z3, z3.s⟩, fun v Hs3 H3 z3 z => p.rt v Hs3 H3 (back z3) z, fun G3 σ3 Hs3 H3 z1 z2 z3 => p.nx G3 σ3 Hs3 H3 z1 z2 (back z3),
            fun G3 σ3 Hs3 H3 z1 z2 z3 => ⟨G3, Hs3, z1, z2, back z3, z3.s⟩⟩
      match i, hv with
      | 0, hv =>
        cases hv
        obtain ⟨G2, a1, a2⟩ := h1 G' q
        exact go ru a1 a2
      | 1, hv =>
        cases hv
        obtain ⟨G2, a1, a2⟩ := h2 G' q
        exact go rw' a1 a2
      | n + 2, hv => exact absurd hv (by simp)
    · obtain ⟨G', Hs', q, e', g', s'⟩ := hp
      exact p.nx G' σ' Hs' H' (hd G' q) e' g'
/-- while c: by a word with its measure -/
theorem st_while (W : Nat → GEnv → Prop) (m0 : Nat) (h0 : W m0 G) (hs : ∀ m G', W m G' → ∃ b, EvB K G' c b ∧ (b = true → StD K G' t { D with nx := fun G2 => ∃ m', m' < m ∧ W m' G2, ct := fun G2 => ∃ m', m' < m ∧ W m' G2, bk := D.nx }) ∧ (b = false → D.nx G')) :
    StD K G (tWhile c t) D := fun Hs0 H0 Hs H σ E e g0 De p => by
  refine ⟨fun m σ' H' => ∃ G' Hs', W m G' ∧ EnvOk K H0 Hs' H' σ' G' E ∧ Grow Hs0 H0 Hs' H', ⟨m0, G, Hs, h0, e, g0⟩, fun m σ' H' hp => ?_⟩
  obtain ⟨G', Hs', q, e', g'⟩ := hp
  obtain ⟨b, hb, h1, h2⟩ := hs m G' q
  refine hb H0 Hs' H' σ' E e' _ fun Hs2 H2 g2 => ?_
  cases b with
  | false => exact p.nx G' σ' Hs2 H2 (h2 rfl) (e'.grow g2) (g'.trans g2)
  | true =>
    refine ⟨fun σ3 H3 => ∃ m', m' < m ∧ ∃ G' Hs', W m' G' ∧ EnvOk K H0 Hs' H3 σ3 G' E ∧ Grow Hs0 H0 Hs' H3, fun σ3 H3 ⟨m', a, b⟩ => ⟨m', a, b⟩, ?_⟩
    exact h1 rfl Hs0 H0 Hs2 H2 σ' E (e'.grow g2) (g'.trans g2) _ ⟨fun G3 σ3 Hs3 H3 ⟨m', a, b⟩ z2 z3 => ⟨m', a, G3, Hs3, b, z2, z3⟩, p.rt, fun G3 σ3 Hs3 H3 z1 z2 z3 => p.nx G3 σ3 Hs3 H3 z1 z2 z3, fun G3 σ3 Hs3 H3 ⟨m', a, b⟩ z2 z3 => ⟨m', a, G3, Hs3, b, z2, z3⟩⟩
/-- a, b = x, y -/
theorem st_par {i j : Nat} {x : α} {y : β} (ha : EvD K G ta x) (hb : EvD K G tb y) (k : D.nx ((G.set i (pureS x)).set j (pureS y))) : StD K G (tPar i j (tCons ta (tCons tb tNil))) D := fun Hs0 H0 Hs H σ E e g0 De p =>
  two ha hb e fun u w Hs' H' g r1 r2 => ⟨u, w, rfl, p.nx _ _ Hs' H' k (((e.grow g).setP i r1).setP j r2) (g0.trans g)⟩
end

/-! ### a def -/
section
variable {P : Program} {w : World} {K : KF} {mg : Str → Option Value} {base : Heap}
theorem env_start {Hs H : Hp} {vs : List V} {ds : List Dyn} {n : Nat} (e : Same Hs H) (r : RepL K Hs vs ds) : EnvOk K H Hs H (vs.map some ++ List.replicate n none) (ds.map dynS ++ List.replicate n none) [] := by
  refine ⟨Same.refl _, e, by simp [r.len], fun _ => [], fun _ _ _ h => (nomatch h), fun _ _ h => (nomatch h), fun _ h => ?_, fun i k hk => ?_⟩
  · rcases h with h | ⟨_, h⟩ <;> exact nomatch h
  · by_cases hi : i < ds.length
    · rw [List.getElem?_append_left (by simpa using hi), List.getElem?_map, List.getElem?_eq_getElem hi] at hk
      obtain ⟨v, hv, rv⟩ := r.get (List.getElem?_eq_getElem hi)
      have hk' : dynS ds[i] = some k := Option.some.inj hk
      refine ⟨v, ?_, ?_⟩
      · rw [List.getElem?_append_left (by simpa [r.len] using hi), List.getElem?_map, hv]
        rfl
      · have : k = (⟨fun K Hs _ v _ => ds[i].rep K Hs v, fun e _ h => ds[i].mono e h⟩ : SlotK) := (Option.some.inj hk').symm
        subst this
        exact rv
    · rw [List.getElem?_append_right (by simpa using hi), List.getElem?_replicate] at hk
      split at hk <;> cases hk
/-- THE RULE for a def -/
theorem fn_st {A : Type} {args : A → List Dyn} {pre : A → Prop} {r : A → RetK} {x qual : Str} {st : Stmt} {f : Addr} {fd : FuncData} {N ps : List Str} {k : Nat} (F : Fun K x qual st f fd) (S : FnScope N ps (defScope st)) (hl : ∀ a, (args a).length = ps.length)
    (hbody : ∀ (cdv : Value) (A' : Around) (outer : List Env) (s : Shared) (H : Hp) (E : XK), Room k (A'.deeper (PyProof.Rows.envOfC qual (defScope st) s.heap.objs.size f cdv)) →
      ∃ t, PSs (cxOf CX0 P w K mg base N qual (defScope st) f cdv A' outer s H E).nox (defBody st) t ∧ ∀ a, pre a → StD K ((args a).map dynS ++ List.replicate (N.length - ps.length) none) t { nx := fun _ => False, rt := r a }) :
    FnOk P w K mg base CX0 (k + 1) f fd ps (spR args pre r K) := by
  refine F.ok S (fun vs H Q E h => ?_) (fun cdv A' outer s H vs Q E hr h => ?_)
  · obtain ⟨Hs, a, _, r1, _⟩ := h
    rw [r1.len, hl]
  · obtain ⟨Hs, a, e, r1, hp, q⟩ := h
    obtain ⟨t, ht, hs⟩ := hbody cdv A' outer s H E hr
    refine ⟨t, ht, ?_⟩
    have hvl : vs.length = ps.length := by rw [r1.len, hl]
    have e0 := env_start (n := N.length - ps.length) e r1
    unfold L2.start
    rw [hvl]
    exact hs a hp Hs H Hs H _ [] e0 (Grow.refl e) _ ⟨fun _ _ _ _ z => z.elim, fun v Hs' H' g z => q v Hs' H' g z, fun _ _ _ _ z => z.elim, fun _ _ _ _ z => z.elim⟩
/-- a def as it is called -/
structure Cal (P : Program) (w : World) (K : KF) (mg : Str → Option Value) (base : Heap) (k : Nat) (x : Str) (ps : List Str) (sp : Sp) : Prop where
  ex : ∃ f fd, FnOk P w K mg base CX0 k f fd ps sp ∧ mg x = some (.ref f) ∧ PySem.W.keepIn K (.ref f) = true ∧ Binds K fd ps []
theorem pe_cal {X : Cx} {k : Nat} {x : Str} {ps : List Str} {sp : Sp} {p pos : Pos} {e : Expr} {es : List Expr} {t : TA} (C : Cal X.prog X.w X.K X.mg X.base k x ps sp) (hr : Room k X.A) (hg : Gl X x)
    (ha : PA X (e :: es) t) (hdb : (x == ("__debug__" : Str)) = false := by decide) (he : starEach (e :: es) X.env = (false, eval e X.env) :: starEach es X.env := by rfl) (hpl : (backTo pos (starEach es X.env)).any (·.1) = false := by rfl) :
    PE X (.Call (.Name x p) (e :: es) [] pos) (tCall sp [] E0 t) := by
  obtain ⟨f, fd, h1, h2, h3, h4⟩ := C.ex
  exact pe_call h1 hr hg h2 h3 h4 .nil pass0 ha hdb he hpl
theorem op_mulA {X : Cx} : OpR X (binaryOp .Mult) (rI IntMulOk fun i j => .int (i * j)) := opI fun _ _ _ _ _ _ _ hc q => PyProof.Rows.mul_int q hc
end
end BB

/-! promises by arity; built-ins; data -/
namespace BB
open PySem PySem.Spec L2

abbrev sp1 {α γ : Type} [Rep α] [Rep γ] (pre : α → Prop) (f : α → γ) (K : KF) : Sp := spR (A := α) (fun a => [dyn a]) (fun a => pre a) (fun a => RetV (f a)) K
abbrev sp2 {α β γ : Type} [Rep α] [Rep β] [Rep γ] (pre : α → β → Prop) (f : α → β → γ) (K : KF) : Sp := spR (A := α × β) (fun a => [dyn a.1, dyn a.2]) (fun a => pre a.1 a.2) (fun a => RetV (f a.1 a.2)) K
abbrev sp3 {α β δ γ : Type} [Rep α] [Rep β] [Rep δ] [Rep γ] (pre : α → β → δ → Prop) (f : α → β → δ → γ) (K : KF) : Sp :=
  spR (A := α × β × δ) (fun a => [dyn a.1, dyn a.2.1, dyn a.2.2]) (fun a => pre a.1 a.2.1 a.2.2) (fun a => RetV (f a.1 a.2.1 a.2.2)) K
abbrev sp4 {α β δ ε γ : Type} [Rep α] [Rep β] [Rep δ] [Rep ε] [Rep γ] (pre : α → β → δ → ε → Prop) (f : α → β → δ → ε → γ) (K : KF) : Sp :=
  spR (A := α × β × δ × ε) (fun a => [dyn a.1, dyn a.2.1, dyn a.2.2.1, dyn a.2.2.2]) (fun a => pre a.1 a.2.1 a.2.2.1 a.2.2.2) (fun a => RetV (f a.1 a.2.1 a.2.2.1 a.2.2.2)) K
abbrev sp5 {α β δ ε ζ γ : Type} [Rep α] [Rep β] [Rep δ] [Rep ε] [Rep ζ] [Rep γ] (pre : α → β → δ → ε → ζ → Prop) (f : α → β → δ → ε → ζ → γ) (K : KF) : Sp :=
  spR (A := α × β × δ × ε × ζ) (fun a => [dyn a.1, dyn a.2.1, dyn a.2.2.1, dyn a.2.2.2.1, dyn a.2.2.2.2]) (fun a => pre a.1 a.2.1 a.2.2.1 a.2.2.2.1 a.2.2.2.2) (fun a => RetV (f a.1 a.2.1 a.2.2.1 a.2.2.2.1 a.2.2.2.2)) K

section
variable {α β δ ε ζ γ : Type} [Rep α] [Rep β] [Rep δ] [Rep ε] [Rep ζ] [Rep γ] {K : KF} {G : GEnv} {ta tb tc td te tf : TE} {X : XK}
theorem evd_call1 {pre : α → Prop} {f : α → γ} {a : α} (ha : EvD K G ta a) (hp : pre a) : EvD K G (tCall (sp1 pre f K) [] X (tCons ta tNil)) (f a) := evd_call a (eva_cons ha eva_nil) hp
theorem evd_call2 {pre : α → β → Prop} {f : α → β → γ} {a : α} {b : β} (ha : EvD K G ta a) (hb : EvD K G tb b) (hp : pre a b) : EvD K G (tCall (sp2 pre f K) [] X (tCons ta (tCons tb tNil))) (f a b) := evd_call (a, b) (eva_cons ha (eva_cons hb eva_nil)) hp
theorem evd_call3 {pre : α → β → δ → Prop} {f : α → β → δ → γ} {a : α} {b : β} {c : δ} (ha : EvD K G ta a) (hb : EvD K G tb b) (hc : EvD K G tc c) (hp : pre a b c) :
    EvD K G (tCall (sp3 pre f K) [] X (tCons ta (tCons tb (tCons tc tNil)))) (f a b c) := evd_call (a, b, c) (eva_cons ha (eva_cons hb (eva_cons hc eva_nil))) hp
theorem evd_call4 {pre : α → β → δ → ε → Prop} {f : α → β → δ → ε → γ} {a : α} {b : β} {c : δ} {d : ε} (ha : EvD K G ta a) (hb : EvD K G tb b) (hc : EvD K G tc c) (hd : EvD K G td d) (hp : pre a b c d) :
    EvD K G (tCall (sp4 pre f K) [] X (tCons ta (tCons tb (tCons tc (tCons td tNil))))) (f a b c d) := evd_call (a, b, c, d) (eva_cons ha (eva_cons hb (eva_cons hc (eva_cons hd eva_nil)))) hp
theorem evd_call5 {pre : α → β → δ → ε → ζ → Prop} {f : α → β → δ → ε → ζ → γ} {a : α} {b : β} {c : δ} {d : ε} {e : ζ} (ha : EvD K G ta a) (hb : EvD K G tb b) (hc : EvD K G tc c) (hd : EvD K G td d) (he : EvD K G te e) (hp : pre a b c d e) :
    EvD K G (tCall (sp5 pre f K) [] X (tCons ta (tCons tb (tCons tc (tCons td (tCons te tNil)))))) (f a b c d e) := evd_call (a, b, c, d, e) (eva_cons ha (eva_cons hb (eva_cons hc (eva_cons hd (eva_cons he eva_nil))))) hp

/-! ### natural numbers -/
theorem EvD.nat {t : TE} {i : Int} {n : Nat} (h : EvD K G t i) (e : i = (n : Int)) : EvD K G t n := by
  subst e
  exact h
theorem evd_eqN {i j : Nat} (ha : EvD K G ta i) (hb : EvD K G tb j) : EvD K G (tOp rEq ta tb) (decide (i = j)) := (evd_eqI ha.int hb.int).to (decide_eq_decide.mpr (by omega))
theorem evd_neN {i j : Nat} (ha : EvD K G ta i) (hb : EvD K G tb j) : EvD K G (tOp rNe ta tb) (!decide (i = j)) := (evd_neI ha.int hb.int).to (congrArg not (decide_eq_decide.mpr (by omega)))
theorem evd_ltN {i j : Nat} (ha : EvD K G ta i) (hb : EvD K G tb j) : EvD K G (tOp (rI0 fun i j => .bl (decide (i < j))) ta tb) (decide (i < j)) := (evd_lt ha.int hb.int).to (by simp)
theorem evd_leN {i j : Nat} (ha : EvD K G ta i) (hb : EvD K G tb j) : EvD K G (tOp (rI0 fun i j => .bl (decide (i ≤ j))) ta tb) (decide (i ≤ j)) := (evd_le ha.int hb.int).to (by simp)
theorem evd_gtN {i j : Nat} (ha : EvD K G ta i) (hb : EvD K G tb j) : EvD K G (tOp (rI0 fun i j => .bl (decide (j < i))) ta tb) (decide (j < i)) := (evd_gt ha.int hb.int).to (by simp)

/-! ### built-ins -/
theorem evd_intc {i : Int} (h : EvD K G ta i) : EvD K G (tCB (fun xs H Q => (∃ i, xs = [.int i] ∧ Q (.int i) H) ∨ ∃ k, xs = [.bl k] ∧ Q (.int (if k then 1 else 0)) H) (tCons ta tNil)) i := fun H0 Hs H σ E e Q q =>
  h H0 Hs H σ E e _ fun v Hs' H' g r => .inl ⟨i, by rw [show v = .int i from r], q _ Hs' H' g rfl⟩
theorem evd_intb {b : Bool} (h : EvD K G ta b) : EvD K G (tCB (fun xs H Q => (∃ i, xs = [.int i] ∧ Q (.int i) H) ∨ ∃ k, xs = [.bl k] ∧ Q (.int (if k then 1 else 0)) H) (tCons ta tNil)) (if b then (1 : Int) else 0) := fun H0 Hs H σ E e Q q =>
  h H0 Hs H σ E e _ fun v Hs' H' g r => .inr ⟨b, by rw [show v = .bl b from r], q _ Hs' H' g rfl⟩
theorem evd_abs {i : Int} (h : EvD K G ta i) : EvD K G (tCB (fun xs H Q => ∃ i, xs = [.int i] ∧ Q (.int (if i < 0 then -i else i)) H) (tCons ta tNil)) i.natAbs := fun H0 Hs H σ E e Q q =>
  h H0 Hs H σ E e _ fun v Hs' H' g r => ⟨i, by rw [show v = .int i from r], q _ Hs' H' g (by
    show V.int _ = V.int _
    congr 1
    split <;> omega)⟩
theorem evd_bits {i : Int} (h : EvD K G ta i) : EvD K G (tBits ta) (Builtin.Int.intBits i) := fun H0 Hs H σ E e Q q =>
  h H0 Hs H σ E e _ fun v Hs' H' g r => ⟨i, r, q _ Hs' H' g rfl⟩
theorem vals_int : ∀ {K : KF} {H : Hp} {vs : List V} {ns : List Int}, All2 (Rep.rep K H) vs ns → vs = ns.map V.int
  | _, _, [], [], _ => rfl
  | _, _, v :: vs, n :: ns, h => by rw [show v = V.int n from h.1, vals_int h.2]; rfl
  | _, _, [], _ :: _, h => h.elim
  | _, _, _ :: _, [], h => h.elim
theorem evd_max {ns : List Int} (h : EvL K G ta ns) (hn : 0 < ns.length) (m : Int) (h1 : m ∈ ns) (h2 : ∀ y ∈ ns, y ≤ m) : EvD K G (tCB (rMax K) (tCons ta tNil)) m := fun H0 Hs H σ E e Q q =>
  h H0 Hs H σ E e _ fun a vs Hs' H' g ha r => ⟨a, ns, rfl, by rw [← vals_int r]; exact .inl (.inl ha), hn, fun m' q1 q2 => q _ Hs' H' g (by
    have e1 := q2 m h1
    have e2 := h2 m' q1
    show V.int m' = V.int m
    congr 1
    omega)⟩
theorem evn_list {l : List α} (h : EvL K G ta l) : EvN K G (tCB (fun xs H Q => ∃ p ys, xs = [.ref p] ∧ (SqL K H p ys ∨ SqT K H p ys) ∧ ∀ l, H l = none → Q (.ref l) (upd H l (.lst ys))) (tCons ta tNil)) l := fun H0 Hs H σ E e Q q =>
  h H0 Hs H σ E e _ fun a vs Hs' H' g ha r => ⟨a, vs, rfl, .inl (.inl (.inl ha)), fun p hp => q p vs Hs' _ (g.trans (Grow.newO g.sub hp)) (g.h.free hp) (g.sub.free hp) upd_same r⟩
theorem evn_cat {l m : List α} (ha : EvL K G ta l) (hb : EvL K G tb m) (hl : l.length + m.length < 100000) : EvN K G (tOp rCat ta tb) (l ++ m) := fun H0 Hs H σ E e Q q =>
  ha H0 Hs H σ E e _ fun a vs Hs1 H1 g1 h1 r1 => hb H0 Hs1 H1 σ E (e.grow g1) _ fun b ws Hs2 H2 g2 h2 r2 =>
    ⟨a, b, vs, ws, rfl, rfl, g2.h _ _ h1, h2, Nat.le_trans (by rw [r1.len, r2.len]; omega) (show 100000 ≤ sizeLine by decide), fun p hp =>
      q p _ Hs2 _ ((g1.trans g2).trans (Grow.newO g2.sub hp)) ((g1.trans g2).h.free hp) (g2.sub.free hp) upd_same ((r1.imp fun _ _ r => Rep.mono g2.s r).app r2)⟩
theorem evo_none : EvO K G tNoPart none := fun H0 Hs H σ E e Q q => q Hs H (Grow.refl e.sub)
theorem evo_some {i : Int} (h : EvD K G ta i) : EvO K G (tPart ta) (some i) := fun H0 Hs H σ E e Q q => h H0 Hs H σ E e _ fun v Hs' H' g r => ⟨i, r, q Hs' H' g⟩
theorem cutV_take (vs : List V) (k : Nat) : cutV vs none (some (k : Int)) = vs.take k := by
  unfold cutV
  rw [HT.sIx_none, show HT.sIx vs.length vs.length (some (k : Int)) = min k vs.length from HT.sIx_nat _ _ _, List.drop_zero, Nat.sub_zero]
  by_cases h : k ≤ vs.length
  · rw [Nat.min_eq_left h]
  · rw [Nat.min_eq_right (by omega), List.take_length, List.take_of_length_le (by omega)]
theorem cutV_drop (vs : List V) (k : Nat) : cutV vs (some (k : Int)) none = vs.drop k := by
  unfold cutV
  rw [HT.sIx_none, show HT.sIx vs.length 0 (some (k : Int)) = min k vs.length from HT.sIx_nat _ _ _]
  by_cases h : k ≤ vs.length
  · rw [Nat.min_eq_left h]
    exact List.take_of_length_le (by rw [List.length_drop]; exact Nat.le_refl _)
  · rw [Nat.min_eq_right (by omega), Nat.sub_self, List.take_zero, List.drop_eq_nil_of_le (by omega)]
theorem evn_take {l : List α} {k : Nat} (ha : EvL K G ta l) (hk : EvD K G tb k) : EvN K G (tSl (rSlL K) ta tNoPart (tPart tb)) (l.take k) := fun H0 Hs H σ E e Q q =>
  ha H0 Hs H σ E e _ fun a vs Hs1 H1 g1 h1 r1 => hk H0 Hs1 H1 σ E (e.grow g1) _ fun v Hs2 H2 g2 r => ⟨(k : Int), r, a, vs, rfl, .inl (.inl (g2.h _ _ h1)), fun p hp =>
    q p _ Hs2 _ ((g1.trans g2).trans (Grow.newO g2.sub hp)) ((g1.trans g2).h.free hp) (g2.sub.free hp) upd_same (by rw [cutV_take]; exact (r1.imp fun _ _ r => Rep.mono g2.s r).take k)⟩
theorem evn_drop {l : List α} {k : Nat} (ha : EvL K G ta l) (hk : EvD K G tb k) : EvN K G (tSl (rSlL K) ta (tPart tb) tNoPart) (l.drop k) := fun H0 Hs H σ E e Q q =>
  ha H0 Hs H σ E e _ fun a vs Hs1 H1 g1 h1 r1 => hk H0 Hs1 H1 σ E (e.grow g1) _ fun v Hs2 H2 g2 r => ⟨(k : Int), r, a, vs, rfl, .inl (.inl (g2.h _ _ h1)), fun p hp =>
    q p _ Hs2 _ ((g1.trans g2).trans (Grow.newO g2.sub hp)) ((g1.trans g2).h.free hp) (g2.sub.free hp) upd_same (by rw [cutV_drop]; exact (r1.imp fun _ _ r => Rep.mono g2.s r).drop k)⟩

/-! ### isinstance -/
def TyD (K : KF) (x : α) (T : String) : Prop := ∀ Hs H v, Same Hs H → Rep.rep K Hs v x → TyX K H v (.type T)
theorem evd_isi {x : α} {T c : String} {b : Bool} (h : EvD K G ta x) (ht : TyD K x T) (hk : kitB T c = some b) : EvD K G (tCB (rIsi K) (tCons ta (tCons (tC (.ty c)) tNil))) b := fun H0 Hs H σ E e Q q =>
  h H0 Hs H σ E e _ fun v Hs' H' g r => ⟨v, .ty c, .type T, .type c, b, rfl, .ty c, ht Hs' H' v g.sub r, kit_ty hk, q _ Hs' H' g rfl⟩
theorem ty_int {i : Int} : TyD K i "int" := fun Hs H v _ r => by rw [show v = .int i from r]; exact .base (.int i)
theorem ty_nat {i : Nat} : TyD K i "int" := fun Hs H v _ r => by rw [show v = .int i from r]; exact .base (.int i)
theorem ty_bool {b : Bool} : TyD K b "bool" := fun Hs H v _ r => by rw [show v = .bl b from r]; exact .base (.bl b)
theorem ty_str {b : Str} : TyD K b "str" := fun Hs H v _ r => by rw [show v = .str b from r]; exact .base (.str b)
theorem ty_list {l : List α} : TyD K l "list" := fun Hs H v e r => by
  obtain ⟨a, vs, rfl, h, _⟩ := r
  exact .base (.lst (e _ _ h))
theorem tyx_tup {H : Hp} {a : Addr} {xs : List V} (h : SqT K H a xs) : TyX K H (.ref a) (.type "tuple") := by
  rcases h with (h | ⟨o, h⟩) | ⟨o, its, n, h1, h2, _⟩
  · exact .base (.tup h)
  · exact .fTuple h
  · exact .kTuple h1 h2
theorem ty_pair {x : α × β} : TyD K x "tuple" := fun Hs H v e r => by
  obtain ⟨a, u, w, rfl, h, _⟩ := r
  exact tyx_tup (same_t e h)
theorem ty_trip {x : T3 α β γ} : TyD K x "tuple" := fun Hs H v e r => by
  obtain ⟨a, u, w, z, rfl, h, _⟩ := r
  exact tyx_tup (same_t e h)
theorem ty_rat {x : Rat} : TyD K x "tuple" := fun Hs H v e r => ty_pair (x := ((x.num, (x.den : Int)) : Int × Int)) Hs H v e r

/-! ### is True, is not True -/
def rIsT : R2 := fun x y H Q => ∃ o : Option Bool, x = obV o ∧ y = .bl true ∧ Q (.bl (decide (o = some true))) H
def rNotT : R2 := fun x y H Q => ∃ o : Option Bool, x = obV o ∧ y = .bl true ∧ Q (.bl (!decide (o = some true))) H
theorem op_isT {X : Cx} : OpR X (compareOp .Is) rIsT := by
  intro pins s σ H x y v u Q I rx ry h
  obtain ⟨o, rfl, rfl, q⟩ := h
  cases (show u = Value.bool true from ry)
  cases o with
  | none =>
    cases (show v = Value.none from rx)
    exact wpAny_is_other rfl (fun z => nomatch z) ⟨.bl false, H, I, rfl, by simpa using q⟩
  | some a =>
    cases (show v = Value.bool a from rx)
    cases a with
    | true => exact wpAny_is_self rfl ⟨.bl true, H, I, rfl, by simpa using q⟩
    | false => exact wpAny_is_other rfl (fun z => by cases z) ⟨.bl false, H, I, rfl, by simpa using q⟩
theorem op_notT {X : Cx} : OpR X (compareOp .IsNot) rNotT := by
  intro pins s σ H x y v u Q I rx ry h
  obtain ⟨o, rfl, rfl, q⟩ := h
  cases (show u = Value.bool true from ry)
  cases o with
  | none =>
    cases (show v = Value.none from rx)
    exact wpAny_isNot_other rfl (fun z => nomatch z) ⟨.bl true, H, I, rfl, by simpa using q⟩
  | some a =>
    cases (show v = Value.bool a from rx)
    cases a with
    | true => exact wpAny_isNot_self rfl ⟨.bl false, H, I, rfl, by simpa using q⟩
    | false => exact wpAny_isNot_other rfl (fun z => by cases z) ⟨.bl true, H, I, rfl, by simpa using q⟩
theorem evd_isT {o : Option Bool} (h : EvD K G ta o) : EvD K G (tOp rIsT ta (tC (.bl true))) (decide (o = some true)) := fun H0 Hs H σ E e Q q =>
  h H0 Hs H σ E e _ fun v Hs' H' g r => ⟨o, ob_rep r, rfl, q _ Hs' H' g rfl⟩
theorem evd_notT {o : Option Bool} (h : EvD K G ta o) : EvD K G (tOp rNotT ta (tC (.bl true))) (!decide (o = some true)) := fun H0 Hs H σ E e Q q =>
  h H0 Hs H σ E e _ fun v Hs' H' g r => ⟨o, ob_rep r, rfl, q _ Hs' H' g rfl⟩

/-! ### == of fractions -/
theorem dp_rat {H Hs : Hp} {v : V} {r : Rat} (e : Same Hs H) (h : Rep.rep K Hs v r) : Dp K H v (.tuple [.int r.num, .int r.den]) := by
  obtain ⟨a, u, w, rfl, ht, h1, h2⟩ := h
  cases (show u = .int r.num from h1)
  cases (show w = .int r.den from h2)
  exact .tup (same_t e ht) (.cons (.int _) (.cons (.int _) .nil))
theorem eqv_rat {a b : Rat} : PyData.eqv (.tuple [.int a.num, .int a.den]) (.tuple [.int b.num, .int b.den]) = decide (a = b) := by
  have e : PyData.eqv (.tuple [.int a.num, .int a.den]) (.tuple [.int b.num, .int b.den]) = (decide (a.num = b.num) && decide ((a.den : Int) = b.den)) := by
    simp [PyData.eqv, PyData.eqvAll]
    rw [Bool.eq_iff_iff]
    simp
  rw [e, Bool.eq_iff_iff, Bool.and_eq_true, decide_eq_true_eq, decide_eq_true_eq, decide_eq_true_eq]
  constructor
  · rintro ⟨h1, h2⟩
    exact Rat.ext h1 (by omega)
  · rintro rfl
    exact ⟨rfl, rfl⟩
theorem evd_eqR {a b : Rat} (ha : EvD K G ta a) (hb : EvD K G tb b) : EvD K G (tOp (rEqD K) ta tb) (decide (a = b)) := evd_op ha hb fun Hs H u w e h1 h2 Q q =>
  ⟨_, _, dp_rat e h1, dp_rat e h2, rfl, rfl, q _ Hs H (Grow.refl e) (by rw [eqv_rat]; rfl)⟩
theorem evd_neR {a b : Rat} (ha : EvD K G ta a) (hb : EvD K G tb b) : EvD K G (tOp (rNeD K) ta tb) (!decide (a = b)) := evd_op ha hb fun Hs H u w e h1 h2 Q q =>
  ⟨_, _, dp_rat e h1, dp_rat e h2, rfl, rfl, q _ Hs H (Grow.refl e) (by rw [eqv_rat]; rfl)⟩
end

/-! ### data -/
abbrev Buy := List Rat × List Rat
abbrev Link := T3 Nat Nat Bool
structure DataM where
  goods : Nat
  buys : List Buy
  links : List Link
instance : Rep DataM :=
  ⟨fun K H v d => ∃ a C dx fs u1 u2 u3, v = .ref a ∧ H a = some (.ins C dx fs) ∧ Cls K C ∧ NoAttr K C "goods" ∧ NoAttr K C "buys" ∧ NoAttr K C "links" ∧ fs.lookup ("goods" : Str) = some u1 ∧ fs.lookup ("buys" : Str) = some u2 ∧ fs.lookup ("links" : Str) = some u3 ∧
      Rep.rep K H u1 d.goods ∧ Rep.rep K H u2 d.buys ∧ Rep.rep K H u3 d.links,
    fun e ⟨a, C, dx, fs, u1, u2, u3, h1, h2, h3, h4, h5, h6, h7, h8, h9, h10, h11, h12⟩ => ⟨a, C, dx, fs, u1, u2, u3, h1, e _ _ h2, h3, h4, h5, h6, h7, h8, h9, Rep.mono e h10, Rep.mono e h11, Rep.mono e h12⟩⟩
section
variable {K : KF} {G : GEnv} {ta : TE}
theorem evd_goods {d : DataM} (h : EvD K G ta d) : EvD K G (tFld K ta "goods") d.goods := fun H0 Hs H σ E e Q q =>
  h H0 Hs H σ E e _ fun v Hs' H' g ⟨a, C, dx, fs, u1, u2, u3, h1, h2, h3, h4, h5, h6, h7, h8, h9, h10, h11, h12⟩ => ⟨a, C, dx, fs, u1, h1, g.sub _ _ h2, h3, h4, h7, q _ Hs' H' g h10⟩
theorem evd_buys {d : DataM} (h : EvD K G ta d) : EvD K G (tFld K ta "buys") d.buys := fun H0 Hs H σ E e Q q =>
  h H0 Hs H σ E e _ fun v Hs' H' g ⟨a, C, dx, fs, u1, u2, u3, h1, h2, h3, h4, h5, h6, h7, h8, h9, h10, h11, h12⟩ => ⟨a, C, dx, fs, u2, h1, g.sub _ _ h2, h3, h5, h8, q _ Hs' H' g h11⟩
theorem evd_links {d : DataM} (h : EvD K G ta d) : EvD K G (tFld K ta "links") d.links := fun H0 Hs H σ E e Q q =>
  h H0 Hs H σ E e _ fun v Hs' H' g ⟨a, C, dx, fs, u1, u2, u3, h1, h2, h3, h4, h5, h6, h7, h8, h9, h10, h11, h12⟩ => ⟨a, C, dx, fs, u3, h1, g.sub _ _ h2, h3, h6, h9, q _ Hs' H' g h12⟩
/-- a constant of the module that is a fraction -/
theorem evd_const {a : Addr} {r : Rat} (h : ∀ H, SqT K H a [.int r.num, .int r.den]) : EvD K G (tC (.ref a)) r := fun H0 Hs H σ E e Q q => q _ Hs H (Grow.refl e.sub) ⟨a, .int r.num, .int r.den, rfl, h Hs, rfl, rfl⟩
end

/-! ### loops -/
def iter {α : Type} : Nat → (Nat → α → α) → α → α
  | 0, _, x => x
  | n + 1, f, x => f n (iter n f x)
def allN : Nat → (Nat → Bool) → Bool
  | 0, _ => true
  | n + 1, p => allN n p && p n
theorem allN_iff {p : Nat → Bool} : ∀ {n : Nat}, allN n p = true ↔ ∀ k, k < n → p k = true
  | 0 => ⟨fun _ k h => absurd h (Nat.not_lt_zero k), fun _ => rfl⟩
  | n + 1 => by
    show (allN n p && p n) = true ↔ _
    rw [Bool.and_eq_true, allN_iff]
    constructor
    · intro h k hk
      by_cases e : k = n
      · subst e; exact h.2
      · exact h.1 k (by omega)
    · intro h
      exact ⟨fun k hk => h k (by omega), h n (Nat.lt_succ_self n)⟩
theorem allN_false {p : Nat → Bool} {n k : Nat} (h : k < n) (hk : p k = false) : allN n p = false := by
  cases e : allN n p with
  | false => rfl
  | true => rw [allN_iff.mp e k h] at hk; cases hk
end BB

/-! sizes -/
namespace BB
open PySem PySem.Spec L2

def Fit (n : Nat) (i : Int) : Prop := i.natAbs < 2 ^ n
def FitR (n : Nat) (r : Rat) : Prop := Fit n r.num ∧ Fit n (r.den : Int)
theorem Fit.mono {n m : Nat} {i : Int} (h : Fit n i) (e : n ≤ m) : Fit m i := Nat.lt_of_lt_of_le h (Nat.pow_le_pow_right (by decide) e)
theorem FitR.mono {n m : Nat} {r : Rat} (h : FitR n r) (e : n ≤ m) : FitR m r := ⟨h.1.mono e, h.2.mono e⟩
theorem Fit.mulOk {n m : Nat} {i j : Int} (hi : Fit n i) (hj : Fit m j) (h : n + m ≤ 100000000) : IntMulOk i j := by
  have h1 := PyProof.Rows.intBits_le hi
  have h2 := PyProof.Rows.intBits_le hj
  unfold IntMulOk
  intro z
  rw [Bool.and_eq_true] at z
  have z2 := z.2
  unfold Builtin.Int.intTooBig at z2
  have z3 := of_decide_eq_true z2
  have e : bitsLine = 134217728 := by decide
  rw [e] at z3
  omega
theorem Fit.mul {n m : Nat} {i j : Int} (hi : Fit n i) (hj : Fit m j) : Fit (n + m) (i * j) := by
  unfold Fit at *
  rw [Int.natAbs_mul, Nat.pow_add]
  exact Nat.mul_lt_mul'' hi hj
theorem Fit.add {n m k : Nat} {i j : Int} (hi : Fit n i) (hj : Fit m j) (h1 : n < k) (h2 : m < k) : Fit k (i + j) := by
  have a := hi.mono (show n ≤ k - 1 by omega)
  have b := hj.mono (show m ≤ k - 1 by omega)
  unfold Fit at *
  have e : (2 : Nat) ^ k = 2 ^ (k - 1) + 2 ^ (k - 1) := by
    have : k = (k - 1) + 1 := by omega
    conv => lhs; rw [this]
    rw [Nat.pow_succ]
    omega
  rw [e]
  omega
theorem Fit.neg {n : Nat} {i : Int} (h : Fit n i) : Fit n (-i) := by
  unfold Fit at *
  omega
theorem Fit.sub {n m k : Nat} {i j : Int} (hi : Fit n i) (hj : Fit m j) (h1 : n < k) (h2 : m < k) : Fit k (i - j) := by
  rw [Int.sub_eq_add_neg]
  exact hi.add hj.neg h1 h2
theorem Fit.le {n : Nat} {i j : Int} (h : Fit n j) (e : i.natAbs ≤ j.natAbs) : Fit n i := Nat.lt_of_le_of_lt e h
theorem fit_small {n : Nat} {i : Int} (h : i.natAbs < n) : Fit n i := Nat.lt_trans h (Nat.lt_two_pow_self)
theorem fit_nat {n k : Nat} (h : k < 2 ^ n) : Fit n (k : Int) := by
  unfold Fit
  omega
theorem fit_divInt {n : Nat} {p q : Int} (hp : Fit n p) (hq : Fit n q) (h : q ≠ 0) : FitR n (Rat.divInt p q) := by
  constructor
  · refine hp.le ?_
    rw [Rat.num_divInt, Int.natAbs_ediv_of_dvd (by
      refine Int.dvd_mul_of_dvd_right ?_
      exact Int.gcd_dvd_right ..), Int.natAbs_mul]
    refine Nat.le_trans (Nat.div_le_self _ _) ?_
    have : q.sign.natAbs ≤ 1 := by
      rw [Int.natAbs_sign]
      split <;> omega
    calc q.sign.natAbs * p.natAbs ≤ 1 * p.natAbs := Nat.mul_le_mul_right _ this
      _ = p.natAbs := Nat.one_mul _
  · refine hq.le ?_
    rw [Rat.den_divInt, if_neg h]
    exact Nat.div_le_self _ _
theorem add_divInt (a b : Rat) : a + b = Rat.divInt (a.num * b.den + b.num * a.den) (a.den * b.den) := by
  conv => lhs; rw [← Rat.num_divInt_den a, ← Rat.num_divInt_den b]
  rw [Rat.divInt_add_divInt _ _ (by have := a.den_nz; omega) (by have := b.den_nz; omega)]
theorem sub_divInt (a b : Rat) : a - b = Rat.divInt (a.num * b.den - b.num * a.den) (a.den * b.den) := by
  conv => lhs; rw [← Rat.num_divInt_den a, ← Rat.num_divInt_den b]
  rw [Rat.divInt_sub_divInt _ _ (by have := a.den_nz; omega) (by have := b.den_nz; omega)]
theorem mul_divInt (a b : Rat) : a * b = Rat.divInt (a.num * b.num) (a.den * b.den) := by
  conv => lhs; rw [← Rat.num_divInt_den a, ← Rat.num_divInt_den b]
  rw [Rat.divInt_mul_divInt]
theorem div_divInt (a b : Rat) : a / b = Rat.divInt (a.num * b.den) (a.den * b.num) := by
  rw [Rat.div_def]
  conv => lhs; rw [← Rat.num_divInt_den a, ← Rat.num_divInt_den b]
  rw [Rat.inv_divInt, Rat.divInt_mul_divInt]
theorem den_pos (a : Rat) : (0 : Int) < a.den := by have := a.den_pos; omega
theorem den_mul_ne (a b : Rat) : (a.den : Int) * b.den ≠ 0 := Int.ne_of_gt (Int.mul_pos (den_pos a) (den_pos b))
theorem FitR.add {n m k : Nat} {a b : Rat} (ha : FitR n a) (hb : FitR m b) (h : n + m < k) : FitR k (a + b) := by
  rw [add_divInt]
  exact fit_divInt ((ha.1.mul hb.2).add (hb.1.mul ha.2) h (by omega)) ((ha.2.mul hb.2).mono (by omega)) (den_mul_ne a b)
theorem FitR.sub {n m k : Nat} {a b : Rat} (ha : FitR n a) (hb : FitR m b) (h : n + m < k) : FitR k (a - b) := by
  rw [sub_divInt]
  exact fit_divInt ((ha.1.mul hb.2).sub (hb.1.mul ha.2) h (by omega)) ((ha.2.mul hb.2).mono (by omega)) (den_mul_ne a b)
theorem FitR.mul {n m k : Nat} {a b : Rat} (ha : FitR n a) (hb : FitR m b) (h : n + m ≤ k) : FitR k (a * b) := by
  rw [mul_divInt]
  exact fit_divInt ((ha.1.mul hb.1).mono h) ((ha.2.mul hb.2).mono h) (den_mul_ne a b)
theorem num_ne {b : Rat} (h : b ≠ 0) : b.num ≠ 0 := fun e => h (Rat.num_eq_zero.mp e)
theorem FitR.div {n m k : Nat} {a b : Rat} (ha : FitR n a) (hb : FitR m b) (h0 : b ≠ 0) (h : n + m ≤ k) : FitR k (a / b) := by
  rw [div_divInt]
  exact fit_divInt ((ha.1.mul hb.2).mono h) ((ha.2.mul hb.1).mono h) (Int.mul_ne_zero (Int.ne_of_gt (den_pos a)) (num_ne h0))
theorem fit_zero {n : Nat} (h : 0 < n) : FitR n 0 := ⟨by
  show (0 : Nat) < 2 ^ n
  exact Nat.two_pow_pos n, by
  show (1 : Nat) < 2 ^ n
  exact Nat.one_lt_two_pow (by omega)⟩
theorem fit_one {n : Nat} (h : 0 < n) : FitR n 1 := ⟨Nat.one_lt_two_pow (by omega), Nat.one_lt_two_pow (by omega)⟩
/-- a fraction that every product takes -/
abbrev SmR (r : Rat) : Prop := FitR 40000000 r
theorem sm_mul {a b : Int} (ha : Fit 40000000 a) (hb : Fit 40000000 b) : IntMulOk a b := ha.mulOk hb (by decide)
end BB

/-! the text; division of any size -/
namespace BB
open PySem PySem.Spec L2

def topS (i : Nat) : Stmt := PySem.Challenge.pw_buybook_k57_whole_taste_and_ring_never_b.main.body.getD i (.Pass ⟨0, 0, 0, 0⟩)

/-- what the walk knows besides K and mg: the built-ins' names, that no importer looks on -/
structure Bi (P : Program) (mg : Str → Option Value) (base : Heap) : Prop where
  len : mg "len" = none
  range : mg "range" = none
  int : mg "int" = none
  list : mg "list" = none
  isinstance : mg "isinstance" = none
  abs : mg "abs" = none
  max : mg "max" = none
  bool : mg "bool" = none
  tuple : mg "tuple" = none
  str : mg "str" = none
  gcd : mg "gcd" = some (.builtin "math.gcd")
  seer : base.NoSeer
  tree : P.given.tree = none

theorem op_fdivA {X : Cx} {l : List Env} (hs : X.base.NoSeer) (ht : X.prog.given.tree = none) (hf : X.stack = X.env :: l) (hk : X.env.scope.isGenerator = false) (hc : X.env.scope.isCoroutine = false) (hd : X.A.depth + Builtin.pylongFrames < recursionLimit) :
    OpR X (binaryOp .FloorDiv) (rI (fun _ j => 0 < j) fun i j => .int (i / j)) := by
  intro pins s σ H x y v u Q I rx ry h
  obtain ⟨i, j, rfl, rfl, hc', q⟩ := h
  obtain ⟨t, rfl⟩ := rx
  obtain ⟨t', rfl⟩ := ry
  have h1 : (0 : Int) < j := hc'
  have hN : s.heap.NoSeer := hs.keeps I.bk
  refine PyProof.Rows.floordiv_int (by omega) ?_ (.inr (PylongRoom.of I.nolimit hd (SeerAt.of hN ht (I.ok.frames.trans (congrArg some hf)) hk hc I.ok.blt I.ok.glob)))
  rw [Int.fdiv_eq_ediv_of_nonneg i (by omega)]
  exact ⟨.int (i / j), H, I.tok _, ⟨_, rfl⟩, q⟩

/-- the module's constants -/
structure Zc (K : KF) (mg : Str → Option Value) (aZ aO : Addr) : Prop where
  zero : mg "ZERO" = some (.ref aZ)
  one : mg "ONE" = some (.ref aO)
  zt : ∀ H, SqT K H aZ [.int (0 : Rat).num, .int (0 : Rat).den]
  ot : ∀ H, SqT K H aO [.int (1 : Rat).num, .int (1 : Rat).den]
/-- the class Data -/
structure Zd (K : KF) (mg : Str → Option Value) (C : Addr) : Prop where
  mC : mg "Data" = some (.ref C)
  cl : Cls K C
  n1 : NoAttr K C "goods"
  n2 : NoAttr K C "buys"
  n3 : NoAttr K C "links"

abbrev s_ratio : Stmt := topS 4
abbrev N_ratio : List Str := ["p", "q", "common"]
theorem sc_ratio : FnScope N_ratio ["p", "q"] (defScope s_ratio) := ⟨rfl, rfl, rfl, by decide +kernel, rfl, by decide +kernel, by decide +kernel⟩
end BB

/-! fractions, rows, data, tastes -/
namespace BB
open PySem PySem.Spec L2
variable {P : Program} {w : World} {K : KF} {mg : Str → Option Value} {base : Heap} {aZ aO : Addr}

/-! ### ratio -/
theorem divInt_pos {p q : Int} (h : 0 < q) : (Rat.divInt p q).num = p / (Nat.gcd p.natAbs q.natAbs : Int) ∧ ((Rat.divInt p q).den : Int) = q / (Nat.gcd p.natAbs q.natAbs : Int) := by
  rw [Rat.num_divInt, Rat.den_divInt, if_neg (by omega), Int.sign_eq_one_of_pos h, Int.one_mul]
  have e : q.gcd p = Nat.gcd p.natAbs q.natAbs := by rw [Int.gcd_comm]; rfl
  rw [e]
  refine ⟨rfl, ?_⟩
  rw [Int.natCast_ediv]
  congr 1
  omega
theorem gcd_pos {p q : Int} (h : 0 < q) : 0 < (Nat.gcd p.natAbs q.natAbs : Int) := by
  have := Nat.gcd_pos_of_pos_right p.natAbs (show 0 < q.natAbs by omega)
  omega
theorem evd_gcd {G : GEnv} {ta tb : TE} {i j : Int} (ha : EvD K G ta i) (hb : EvD K G tb j) : EvD K G (tCB rGcd (tCons ta (tCons tb tNil))) ((Nat.gcd i.natAbs j.natAbs : Nat) : Int) := fun H0 Hs H σ E e Q q =>
  two ha hb e fun u w Hs' H' g r1 r2 => ⟨i, j, by rw [show u = .int i from r1, show w = .int j from r2], q _ Hs' H' g rfl⟩
abbrev sp_ratio := sp2 (fun (_ : Int) (q : Int) => q ≠ 0) (fun p q => Rat.divInt p q)
theorem room_div {k : Nat} {A : Around} (hr : Room k A) (h : 39 ≤ k := by decide) : A.depth + Builtin.pylongFrames < recursionLimit := by
  have := hr.dp
  have e : Builtin.pylongFrames = 100 := rfl
  omega
theorem ok_ratio {f : Addr} {fd : FuncData} (F : Fun K "ratio" "ratio" s_ratio f fd) (B : Bi P mg base) : FnOk P w K mg base CX0 40 f fd ["p", "q"] (sp_ratio K) :=
  fn_st F sc_ratio (fun _ => rfl) fun cdv A' outer s H E hr => ⟨_,
(pss_cons (ps_if (pt_cmpR op_lt (pv 1) pe_int (nomark _))
(pss_cons (ps_set (i := 0) sc_ratio.nd rfl (.inl rfl) (pe_un un_neg (pv 0)))
(pss_one (ps_set (i := 1) sc_ratio.nd rfl (.inl rfl) (pe_un un_neg (pv 1)))))
pss_nil)
(pss_cons (ps_set (i := 2) sc_ratio.nd rfl (.inl rfl) (pe_callBfun cr_gcd (by rfl) B.gcd (pa_cons (pv 0) (pa_cons (pv 1) pa_nil))))
(pss_one (ps_ret (pe_tup (pa_cons (pe_op (op_fdivA B.seer B.tree rfl rfl rfl (room_div hr)) (pv 0) (pv 2)) (pa_cons (pe_op (op_fdivA B.seer B.tree rfl rfl rfl (room_div hr)) (pv 1) (pv 2)) pa_nil))))))), 
fun ⟨p, q⟩ hp => by
    show StD K [pureS p, pureS q, none] _ _
    have hp : q ≠ 0 := hp
    refine st_mid (fun G' => ∃ p' q', G' = [pureS p', pureS q', none] ∧ 0 < q' ∧ Rat.divInt p' q' = Rat.divInt p q) ?_ ?_
    · refine st_if (evb_test (evd_lt (evd_var rfl) evd_int)) (fun h => ?_) (fun h => ?_)
      · have h : q < 0 := of_decide_eq_true h
        refine st_seq (st_set (evd_neg (evd_var rfl)) (st_set (evd_neg (evd_var rfl)) ?_))
        exact ⟨-p, -q, rfl, by omega, Rat.neg_divInt_neg p q⟩
      · have h : ¬ q < 0 := of_decide_eq_false h
        exact st_next ⟨p, q, rfl, by omega, rfl⟩
    · rintro G' ⟨p', q', rfl, hq, e⟩
      refine st_seq (st_set (evd_gcd (evd_var rfl) (evd_var rfl)) ?_)
      have hg := gcd_pos (p := p') hq
      refine st_ret (y := Rat.divInt p q) (x := Rat.divInt p' q') (EvD.rat (evd_tup2 (evd_div (evd_var rfl) (evd_var rfl) hg) (evd_div (evd_var rfl) (evd_var rfl) hg)) ?_) rfl e
      obtain ⟨h1, h2⟩ := divInt_pos (p := p') hq
      rw [h1, h2]
⟩
/-! ### add, sub, mul, div, less, at_most -/
abbrev s_add : Stmt := topS 5
abbrev N_add : List Str := ["a", "b"]
theorem sc_add : FnScope N_add ["a", "b"] (defScope s_add) := ⟨rfl, rfl, rfl, by decide +kernel, rfl, by decide +kernel, by decide +kernel⟩

abbrev s_sub : Stmt := topS 6
abbrev N_sub : List Str := ["a", "b"]
theorem sc_sub : FnScope N_sub ["a", "b"] (defScope s_sub) := ⟨rfl, rfl, rfl, by decide +kernel, rfl, by decide +kernel, by decide +kernel⟩

abbrev s_mul : Stmt := topS 7
abbrev N_mul : List Str := ["a", "b"]
theorem sc_mul : FnScope N_mul ["a", "b"] (defScope s_mul) := ⟨rfl, rfl, rfl, by decide +kernel, rfl, by decide +kernel, by decide +kernel⟩

abbrev s_div : Stmt := topS 8
abbrev N_div : List Str := ["a", "b"]
theorem sc_div : FnScope N_div ["a", "b"] (defScope s_div) := ⟨rfl, rfl, rfl, by decide +kernel, rfl, by decide +kernel, by decide +kernel⟩

abbrev s_less : Stmt := topS 9
abbrev N_less : List Str := ["a", "b"]
theorem sc_less : FnScope N_less ["a", "b"] (defScope s_less) := ⟨rfl, rfl, rfl, by decide +kernel, rfl, by decide +kernel, by decide +kernel⟩

abbrev s_at_most : Stmt := topS 10
abbrev N_at_most : List Str := ["a", "b"]
theorem sc_at_most : FnScope N_at_most ["a", "b"] (defScope s_at_most) := ⟨rfl, rfl, rfl, by decide +kernel, rfl, by decide +kernel, by decide +kernel⟩

abbrev sp_add := sp2 (fun a b => SmR a ∧ SmR b) (fun (a b : Rat) => a + b)
abbrev sp_sub := sp2 (fun a b => SmR a ∧ SmR b) (fun (a b : Rat) => a - b)
abbrev sp_mul := sp2 (fun a b => SmR a ∧ SmR b) (fun (a b : Rat) => a * b)
abbrev sp_div := sp2 (fun a b => SmR a ∧ SmR b ∧ b ≠ 0) (fun (a b : Rat) => a / b)
abbrev sp_less := sp2 (fun a b => SmR a ∧ SmR b) (fun (a b : Rat) => decide (a < b))
abbrev sp_at_most := sp2 (fun a b => SmR a ∧ SmR b) (fun (a b : Rat) => decide (a ≤ b))
theorem ok_add {f : Addr} {fd : FuncData} (F : Fun K "add" "add" s_add f fd) (B : Bi P mg base) (Cratio : Cal P w K mg base 40 "ratio" ["p", "q"] (sp_ratio K)) : FnOk P w K mg base CX0 41 f fd ["a", "b"] (sp_add K) :=
  fn_st F sc_add (fun _ => rfl) fun cdv A' outer s H E hr => ⟨_,
(pss_one (ps_ret (pe_cal Cratio (hr.mono (by decide)) (by rfl) (pa_cons (pe_op op_add (pe_op op_mulA (pe_ix ix_tup (pv 0) pe_int (fun _ _ => rfl)) (pe_ix ix_tup (pv 1) pe_int (fun _ _ => rfl))) (pe_op op_mulA (pe_ix ix_tup (pv 1) pe_int (fun _ _ => rfl)) (pe_ix ix_tup (pv 0) pe_int (fun _ _ => rfl)))) (pa_cons (pe_op op_mulA (pe_ix ix_tup (pv 0) pe_int (fun _ _ => rfl)) (pe_ix ix_tup (pv 1) pe_int (fun _ _ => rfl))) pa_nil))))), 
fun ⟨a, b⟩ hp => by
    show StD K [pureS a, pureS b] _ _
    obtain ⟨h1, h2⟩ : SmR a ∧ SmR b := hp
    refine st_ret (evd_call2 (evd_add (evd_mul (evd_num (evd_var rfl)) (evd_den (evd_var rfl)) ?_) (evd_mul (evd_num (evd_var rfl)) (evd_den (evd_var rfl)) ?_)) (evd_mul (evd_den (evd_var rfl)) (evd_den (evd_var rfl)) ?_) ?_) rfl (add_divInt a b).symm
    · exact sm_mul h1.1 h2.2
    · exact sm_mul h2.1 h1.2
    · exact sm_mul h1.2 h2.2
    · exact den_mul_ne a b
⟩
theorem ok_sub {f : Addr} {fd : FuncData} (F : Fun K "sub" "sub" s_sub f fd) (B : Bi P mg base) (Cratio : Cal P w K mg base 40 "ratio" ["p", "q"] (sp_ratio K)) : FnOk P w K mg base CX0 41 f fd ["a", "b"] (sp_sub K) :=
  fn_st F sc_sub (fun _ => rfl) fun cdv A' outer s H E hr => ⟨_,
(pss_one (ps_ret (pe_cal Cratio (hr.mono (by decide)) (by rfl) (pa_cons (pe_op op_sub (pe_op op_mulA (pe_ix ix_tup (pv 0) pe_int (fun _ _ => rfl)) (pe_ix ix_tup (pv 1) pe_int (fun _ _ => rfl))) (pe_op op_mulA (pe_ix ix_tup (pv 1) pe_int (fun _ _ => rfl)) (pe_ix ix_tup (pv 0) pe_int (fun _ _ => rfl)))) (pa_cons (pe_op op_mulA (pe_ix ix_tup (pv 0) pe_int (fun _ _ => rfl)) (pe_ix ix_tup (pv 1) pe_int (fun _ _ => rfl))) pa_nil))))), 
fun ⟨a, b⟩ hp => by
    show StD K [pureS a, pureS b] _ _
    obtain ⟨h1, h2⟩ : SmR a ∧ SmR b := hp
    refine st_ret (evd_call2 (evd_sub (evd_mul (evd_num (evd_var rfl)) (evd_den (evd_var rfl)) ?_) (evd_mul (evd_num (evd_var rfl)) (evd_den (evd_var rfl)) ?_)) (evd_mul (evd_den (evd_var rfl)) (evd_den (evd_var rfl)) ?_) ?_) rfl (sub_divInt a b).symm
    · exact sm_mul h1.1 h2.2
    · exact sm_mul h2.1 h1.2
    · exact sm_mul h1.2 h2.2
    · exact den_mul_ne a b
⟩
theorem ok_mul {f : Addr} {fd : FuncData} (F : Fun K "mul" "mul" s_mul f fd) (B : Bi P mg base) (Cratio : Cal P w K mg base 40 "ratio" ["p", "q"] (sp_ratio K)) : FnOk P w K mg base CX0 41 f fd ["a", "b"] (sp_mul K) :=
  fn_st F sc_mul (fun _ => rfl) fun cdv A' outer s H E hr => ⟨_,
(pss_one (ps_ret (pe_cal Cratio (hr.mono (by decide)) (by rfl) (pa_cons (pe_op op_mulA (pe_ix ix_tup (pv 0) pe_int (fun _ _ => rfl)) (pe_ix ix_tup (pv 1) pe_int (fun _ _ => rfl))) (pa_cons (pe_op op_mulA (pe_ix ix_tup (pv 0) pe_int (fun _ _ => rfl)) (pe_ix ix_tup (pv 1) pe_int (fun _ _ => rfl))) pa_nil))))), 
fun ⟨a, b⟩ hp => by
    show StD K [pureS a, pureS b] _ _
    obtain ⟨h1, h2⟩ : SmR a ∧ SmR b := hp
    refine st_ret (evd_call2 (evd_mul (evd_num (evd_var rfl)) (evd_num (evd_var rfl)) ?_) (evd_mul (evd_den (evd_var rfl)) (evd_den (evd_var rfl)) ?_) ?_) rfl (mul_divInt a b).symm
    · exact sm_mul h1.1 h2.1
    · exact sm_mul h1.2 h2.2
    · exact den_mul_ne a b
⟩
theorem ok_div {f : Addr} {fd : FuncData} (F : Fun K "div" "div" s_div f fd) (B : Bi P mg base) (Cratio : Cal P w K mg base 40 "ratio" ["p", "q"] (sp_ratio K)) : FnOk P w K mg base CX0 41 f fd ["a", "b"] (sp_div K) :=
  fn_st F sc_div (fun _ => rfl) fun cdv A' outer s H E hr => ⟨_,
(pss_one (ps_ret (pe_cal Cratio (hr.mono (by decide)) (by rfl) (pa_cons (pe_op op_mulA (pe_ix ix_tup (pv 0) pe_int (fun _ _ => rfl)) (pe_ix ix_tup (pv 1) pe_int (fun _ _ => rfl))) (pa_cons (pe_op op_mulA (pe_ix ix_tup (pv 0) pe_int (fun _ _ => rfl)) (pe_ix ix_tup (pv 1) pe_int (fun _ _ => rfl))) pa_nil))))), 
fun ⟨a, b⟩ hp => by
    show StD K [pureS a, pureS b] _ _
    obtain ⟨h1, h2, h3⟩ : SmR a ∧ SmR b ∧ b ≠ 0 := hp
    refine st_ret (evd_call2 (evd_mul (evd_num (evd_var rfl)) (evd_den (evd_var rfl)) ?_) (evd_mul (evd_den (evd_var rfl)) (evd_num (evd_var rfl)) ?_) ?_) rfl (div_divInt a b).symm
    · exact sm_mul h1.1 h2.2
    · exact sm_mul h1.2 h2.1
    · exact Int.mul_ne_zero (Int.ne_of_gt (den_pos a)) (num_ne h3)
⟩
theorem ok_less {f : Addr} {fd : FuncData} (F : Fun K "less" "less" s_less f fd) (B : Bi P mg base) : FnOk P w K mg base CX0 40 f fd ["a", "b"] (sp_less K) :=
  fn_st F sc_less (fun _ => rfl) fun cdv A' outer s H E hr => ⟨_,
(pss_one (ps_ret (pe_cmpR op_lt (pe_op op_mulA (pe_ix ix_tup (pv 0) pe_int (fun _ _ => rfl)) (pe_ix ix_tup (pv 1) pe_int (fun _ _ => rfl))) (pe_op op_mulA (pe_ix ix_tup (pv 1) pe_int (fun _ _ => rfl)) (pe_ix ix_tup (pv 0) pe_int (fun _ _ => rfl))) (nomark _)))), 
fun ⟨a, b⟩ hp => by
    show StD K [pureS a, pureS b] _ _
    obtain ⟨h1, h2⟩ : SmR a ∧ SmR b := hp
    refine st_ret (evd_lt (evd_mul (evd_num (evd_var rfl)) (evd_den (evd_var rfl)) ?_) (evd_mul (evd_num (evd_var rfl)) (evd_den (evd_var rfl)) ?_)) rfl ?_
    · exact sm_mul h1.1 h2.2
    · exact sm_mul h2.1 h1.2
    · exact decide_eq_decide.mpr (Rat.lt_iff a b).symm
⟩
theorem ok_at_most {f : Addr} {fd : FuncData} (F : Fun K "at_most" "at_most" s_at_most f fd) (B : Bi P mg base) : FnOk P w K mg base CX0 40 f fd ["a", "b"] (sp_at_most K) :=
  fn_st F sc_at_most (fun _ => rfl) fun cdv A' outer s H E hr => ⟨_,
(pss_one (ps_ret (pe_cmpR op_le (pe_op op_mulA (pe_ix ix_tup (pv 0) pe_int (fun _ _ => rfl)) (pe_ix ix_tup (pv 1) pe_int (fun _ _ => rfl))) (pe_op op_mulA (pe_ix ix_tup (pv 1) pe_int (fun _ _ => rfl)) (pe_ix ix_tup (pv 0) pe_int (fun _ _ => rfl))) (nomark _)))), 
fun ⟨a, b⟩ hp => by
    show StD K [pureS a, pureS b] _ _
    obtain ⟨h1, h2⟩ : SmR a ∧ SmR b := hp
    refine st_ret (evd_le (evd_mul (evd_num (evd_var rfl)) (evd_den (evd_var rfl)) ?_) (evd_mul (evd_num (evd_var rfl)) (evd_den (evd_var rfl)) ?_)) rfl ?_
    · exact sm_mul h1.1 h2.2
    · exact sm_mul h2.1 h1.2
    · exact decide_eq_decide.mpr (Rat.le_iff a b).symm
⟩
/-! ### dot, cost, spent, plane -/
abbrev s_dot : Stmt := topS 12
abbrev N_dot : List Str := ["a", "b", "total", "k"]
theorem sc_dot : FnScope N_dot ["a", "b"] (defScope s_dot) := ⟨rfl, rfl, rfl, by decide +kernel, rfl, by decide +kernel, by decide +kernel⟩

abbrev s_cost : Stmt := topS 15
abbrev N_cost : List Str := ["prices", "amounts"]
theorem sc_cost : FnScope N_cost ["prices", "amounts"] (defScope s_cost) := ⟨rfl, rfl, rfl, by decide +kernel, rfl, by decide +kernel, by decide +kernel⟩

abbrev s_spent : Stmt := topS 16
abbrev N_spent : List Str := ["data", "i", "prices", "amounts"]
theorem sc_spent : FnScope N_spent ["data", "i"] (defScope s_spent) := ⟨rfl, rfl, rfl, by decide +kernel, rfl, by decide +kernel, by decide +kernel⟩

abbrev s_plane : Stmt := topS 18
abbrev N_plane : List Str := ["data", "taste", "i", "basket", "numbers", "weights"]
theorem sc_plane : FnScope N_plane ["data", "taste", "i", "basket"] (defScope s_plane) := ⟨rfl, rfl, rfl, by decide +kernel, rfl, by decide +kernel, by decide +kernel⟩

def FitL (n : Nat) (l : List Rat) : Prop := ∀ x ∈ l, FitR n x
theorem FitL.getD {n : Nat} {l : List Rat} {k : Nat} (h : FitL n l) (hk : k < l.length) : FitR n (l.getD k default) := by
  rw [List.getD_eq_getElem?_getD, List.getElem?_eq_getElem hk]
  exact h _ (List.getElem_mem hk)
def dotM (a b : List Rat) : Rat := iter a.length (fun k t => t + a.getD k default * b.getD k default) 0
theorem iter_dot {a b : List Rat} (ha : FitL 64 a) (hb : FitL 64 b) (hl : a.length ≤ b.length) : ∀ k, k ≤ a.length → FitR (130 * k + 1) (iter k (fun k t => t + a.getD k default * b.getD k default) 0)
  | 0, _ => fit_zero (by decide)
  | k + 1, h => (iter_dot ha hb hl k (by omega)).add ((ha.getD (by omega)).mul (hb.getD (by omega)) (Nat.le_refl 128)) (by omega)
structure DotOk (a b : List Rat) : Prop where
  le : a.length ≤ b.length
  len : a.length ≤ 4
  fa : FitL 64 a
  fb : FitL 64 b
theorem DotOk.fit {a b : List Rat} (h : DotOk a b) : FitR 521 (dotM a b) := (iter_dot h.fa h.fb h.le a.length (Nat.le_refl _)).mono (by have := h.len; omega)
abbrev sp_dot := sp2 DotOk dotM
abbrev sp_cost := sp2 DotOk dotM
theorem ok_dot {f : Addr} {fd : FuncData} (F : Fun K "dot" "dot" s_dot f fd) (B : Bi P mg base) (Z : Zc K mg aZ aO) (Cadd : Cal P w K mg base 41 "add" ["a", "b"] (sp_add K)) (Cmul : Cal P w K mg base 41 "mul" ["a", "b"] (sp_mul K)) : FnOk P w K mg base CX0 42 f fd ["a", "b"] (sp_dot K) :=
  fn_st F sc_dot (fun _ => rfl) fun cdv A' outer s H E hr => ⟨_,
(pss_cons (ps_set (i := 2) sc_dot.nd rfl (.inl rfl) (pe_glob (v := .ref aZ) (by rfl) Z.zero rfl))
(pss_cons (ps_for PassesOwn.never rfl (pi_range1 (by rfl) B.range (pa_cons (pe_callB call_len_seq (by rfl) B.len PySem.boot_len (pa_cons (pv 0) pa_nil)) pa_nil)) (pg_name (i := 3) sc_dot.nd rfl (.inl rfl))
(pss_one (ps_set (i := 2) sc_dot.nd rfl (.inl rfl) (pe_cal Cadd (hr.mono (by decide)) (by rfl) (pa_cons (pv 2) (pa_cons (pe_cal Cmul (hr.mono (by decide)) (by rfl) (pa_cons (pe_ix ix_list (pv 0) (pv 3) (fun _ _ => rfl)) (pa_cons (pe_ix ix_list (pv 1) (pv 3) (fun _ _ => rfl)) pa_nil))) pa_nil))))))
(pss_one (ps_ret (pv 2))))), 
fun ⟨a, b⟩ hp => by
    show StD K [pureS a, pureS b, none, none] _ _
    have hp : DotOk a b := hp
    refine st_seq (st_set (evd_const Z.zt) ?_)
    refine st_seq (st_forR (fun i G' => ∃ s3, G' = [pureS a, pureS b, pureS (iter i (fun k t => t + a.getD k default * b.getD k default) 0), s3]) (len_of (evd_var rfl).l) ?_ ⟨_, rfl⟩ (fun i G' hi hI => ?_) fun G' hI => ?_)
    · have := hp.len
      omega
    · obtain ⟨s3, rfl⟩ := hI
      have f1 := (hp.fa.getD hi).mono (show 64 ≤ 40000000 by decide)
      have f2 := (hp.fb.getD (Nat.lt_of_lt_of_le hi hp.le)).mono (show 64 ≤ 40000000 by decide)
      refine st_set (evd_call2 (evd_var rfl) (evd_call2 (evd_ix (evd_var rfl).l (evd_var rfl) hi) (evd_ix (evd_var rfl).l (evd_var rfl) (Nat.lt_of_lt_of_le hi hp.le)) ⟨f1, f2⟩) ⟨?_, ?_⟩) ⟨_, rfl⟩
      · exact (iter_dot hp.fa hp.fb hp.le i (by omega)).mono (by have := hp.len; omega)
      · exact ((hp.fa.getD hi).mul (hp.fb.getD (Nat.lt_of_lt_of_le hi hp.le)) (Nat.le_refl 128)).mono (by decide)
    · obtain ⟨s3, rfl⟩ := hI
      exact st_ret (evd_var rfl) rfl rfl
⟩
theorem ok_cost {f : Addr} {fd : FuncData} (F : Fun K "cost" "cost" s_cost f fd) (B : Bi P mg base) (Cdot : Cal P w K mg base 42 "dot" ["a", "b"] (sp_dot K)) : FnOk P w K mg base CX0 43 f fd ["prices", "amounts"] (sp_cost K) :=
  fn_st F sc_cost (fun _ => rfl) fun cdv A' outer s H E hr => ⟨_,
(pss_one (ps_ret (pe_cal Cdot (hr.mono (by decide)) (by rfl) (pa_cons (pv 0) (pa_cons (pv 1) pa_nil))))), 
fun ⟨a, b⟩ hp => by
    show StD K [pureS a, pureS b] _ _
    exact st_ret (evd_call2 (evd_var rfl) (evd_var rfl) hp) rfl rfl
⟩
def BuyOk (g : Nat) (b : Buy) : Prop := b.1.length = g ∧ b.2.length = g ∧ FitL 64 b.1 ∧ FitL 64 b.2
structure BuysOk (g : Nat) (bs : List Buy) : Prop where
  goods : g ≤ 4
  len : bs.length ≤ 8
  each : ∀ b ∈ bs, BuyOk g b
theorem BuysOk.at {g : Nat} {bs : List Buy} {i : Nat} (h : BuysOk g bs) (hi : i < bs.length) : BuyOk g (bs.getD i default) := by
  rw [List.getD_eq_getElem?_getD, List.getElem?_eq_getElem hi]
  exact h.each _ (List.getElem_mem hi)
def coM (bs : List Buy) (i : Nat) (x : List Rat) : Rat := dotM (bs.getD i default).1 x
def spM (bs : List Buy) (i : Nat) : Rat := dotM (bs.getD i default).1 (bs.getD i default).2
def gapM (bs : List Buy) (i : Nat) (x : List Rat) : Rat := coM bs i x - spM bs i
def BasOk (g : Nat) (x : List Rat) : Prop := x.length = g ∧ FitL 64 x
theorem BuysOk.bas {g : Nat} {bs : List Buy} {i : Nat} (h : BuysOk g bs) (hi : i < bs.length) : BasOk g (bs.getD i default).2 := ⟨(h.at hi).2.1, (h.at hi).2.2.2⟩
theorem BuysOk.dot {g : Nat} {bs : List Buy} {i : Nat} {x : List Rat} (h : BuysOk g bs) (hi : i < bs.length) (hx : BasOk g x) : DotOk (bs.getD i default).1 x :=
  ⟨by rw [(h.at hi).1, hx.1]; exact Nat.le_refl _, by rw [(h.at hi).1]; exact h.goods, (h.at hi).2.2.1, hx.2⟩
theorem BuysOk.co {g : Nat} {bs : List Buy} {i : Nat} {x : List Rat} (h : BuysOk g bs) (hi : i < bs.length) (hx : BasOk g x) : FitR 521 (coM bs i x) := (h.dot hi hx).fit
theorem BuysOk.sp {g : Nat} {bs : List Buy} {i : Nat} (h : BuysOk g bs) (hi : i < bs.length) : FitR 521 (spM bs i) := (h.dot hi (h.bas hi)).fit
theorem BuysOk.gap {g : Nat} {bs : List Buy} {i : Nat} {x : List Rat} (h : BuysOk g bs) (hi : i < bs.length) (hx : BasOk g x) : FitR 1043 (gapM bs i x) := (h.co hi hx).sub (h.sp hi) (by decide)
abbrev sp_spent := sp2 (fun (d : DataM) (i : Nat) => BuysOk d.goods d.buys ∧ i < d.buys.length) (fun d i => spM d.buys i)
theorem ok_spent {f : Addr} {fd : FuncData} (F : Fun K "spent" "spent" s_spent f fd) (B : Bi P mg base) (Cdot : Cal P w K mg base 42 "dot" ["a", "b"] (sp_dot K)) : FnOk P w K mg base CX0 43 f fd ["data", "i"] (sp_spent K) :=
  fn_st F sc_spent (fun _ => rfl) fun cdv A' outer s H E hr => ⟨_,
(pss_cons (ps_asg (pe_ix ix_list (pe_fld (pv 0) rfl) (pv 1) (fun _ _ => rfl)) (pg_tup rfl (pgs_cons (pg_name (i := 2) sc_spent.nd rfl (.inl rfl)) (pgs_cons (pg_name (i := 3) sc_spent.nd rfl (.inl rfl)) pgs_nil))))
(pss_one (ps_ret (pe_cal Cdot (hr.mono (by decide)) (by rfl) (pa_cons (pv 2) (pa_cons (pv 3) pa_nil)))))), 
fun ⟨d, i⟩ hp => by
    show StD K [pureS d, pureS i, none, none] _ _
    obtain ⟨h1, h2⟩ : BuysOk d.goods d.buys ∧ i < d.buys.length := hp
    refine st_seq (st_asg (evd_ix (evd_buys (evd_var rfl)).l (evd_var rfl) h2) (gd_tup2 gd_name gd_name) ?_)
    exact st_ret (evd_call2 (evd_var rfl) (evd_var rfl) (h1.dot h2 (h1.bas h2))) rfl rfl
⟩
def planeM (bs : List Buy) (t : List Rat × List Rat) (i : Nat) (x : List Rat) : Rat := t.1.getD i default + t.2.getD i default * gapM bs i x
structure PlaneOk (d : DataM) (t : List Rat × List Rat) (i : Nat) (x : List Rat) : Prop where
  buys : BuysOk d.goods d.buys
  hi : i < d.buys.length
  hn : i < t.1.length
  hw : i < t.2.length
  hx : BasOk d.goods x
  fn : FitR 1000000 (t.1.getD i default)
  fw : FitR 1000000 (t.2.getD i default)
theorem PlaneOk.fit {d : DataM} {t : List Rat × List Rat} {i : Nat} {x : List Rat} (h : PlaneOk d t i x) : FitR 2001045 (planeM d.buys t i x) :=
  h.fn.add (h.fw.mul (h.buys.gap h.hi h.hx) (Nat.le_refl _)) (by decide)
abbrev sp_plane := sp4 PlaneOk (fun d t i x => planeM d.buys t i x)
theorem ok_plane {f : Addr} {fd : FuncData} (F : Fun K "plane" "plane" s_plane f fd) (B : Bi P mg base) (Cadd : Cal P w K mg base 41 "add" ["a", "b"] (sp_add K)) (Csub : Cal P w K mg base 41 "sub" ["a", "b"] (sp_sub K)) (Cmul : Cal P w K mg base 41 "mul" ["a", "b"] (sp_mul K)) (Ccost : Cal P w K mg base 43 "cost" ["prices", "amounts"] (sp_cost K)) (Cspent : Cal P w K mg base 43 "spent" ["data", "i"] (sp_spent K)) : FnOk P w K mg base CX0 44 f fd ["data", "taste", "i", "basket"] (sp_plane K) :=
  fn_st F sc_plane (fun _ => rfl) fun cdv A' outer s H E hr => ⟨_,
(pss_cons (ps_asg (pv 1) (pg_tup rfl (pgs_cons (pg_name (i := 4) sc_plane.nd rfl (.inl rfl)) (pgs_cons (pg_name (i := 5) sc_plane.nd rfl (.inl rfl)) pgs_nil))))
(pss_one (ps_ret (pe_cal Cadd (hr.mono (by decide)) (by rfl) (pa_cons (pe_ix ix_list (pv 4) (pv 2) (fun _ _ => rfl)) (pa_cons (pe_cal Cmul (hr.mono (by decide)) (by rfl) (pa_cons (pe_ix ix_list (pv 5) (pv 2) (fun _ _ => rfl)) (pa_cons (pe_cal Csub (hr.mono (by decide)) (by rfl) (pa_cons (pe_cal Ccost (hr.mono (by decide)) (by rfl) (pa_cons (pe_ix ix_tup (pe_ix ix_list (pe_fld (pv 0) rfl) (pv 2) (fun _ _ => rfl)) pe_int (fun _ _ => rfl)) (pa_cons (pv 3) pa_nil))) (pa_cons (pe_cal Cspent (hr.mono (by decide)) (by rfl) (pa_cons (pv 0) (pa_cons (pv 2) pa_nil))) pa_nil))) pa_nil))) pa_nil)))))), 
fun ⟨d, t, i, x⟩ hp => by
    show StD K [pureS d, pureS t, pureS i, pureS x, none, none] _ _
    have hp : PlaneOk d t i x := hp
    refine st_seq (st_asg (evd_var rfl) (gd_tup2 gd_name gd_name) ?_)
    refine st_ret (evd_call2 (evd_ix (evd_var rfl).l (evd_var rfl) hp.hn) (evd_call2 (evd_ix (evd_var rfl).l (evd_var rfl) hp.hw) (evd_call2 (evd_call2 (evd_fst (evd_ix (evd_buys (evd_var rfl)).l (evd_var rfl) hp.hi)) (evd_var rfl) (hp.buys.dot hp.hi hp.hx)) (evd_call2 (evd_var rfl) (evd_var rfl) ⟨hp.buys, hp.hi⟩) ⟨?_, ?_⟩) ⟨?_, ?_⟩) ⟨?_, ?_⟩) rfl rfl
    · exact (hp.buys.co hp.hi hp.hx).mono (by decide)
    · exact (hp.buys.sp hp.hi).mono (by decide)
    · exact hp.fw.mono (by decide)
    · exact (hp.buys.gap hp.hi hp.hx).mono (by decide)
    · exact hp.fn.mono (by decide)
    · exact (hp.fw.mul (hp.buys.gap hp.hi hp.hx) (Nat.le_refl _)).mono (by decide)
⟩
end BB

/-! the judges, steps -/
namespace BB
open PySem PySem.Spec L2
variable {P : Program} {w : World} {K : KF} {mg : Str → Option Value} {base : Heap} {aZ aO : Addr}

/-! ### links_hold, judge_taste -/
abbrev s_links_hold : Stmt := topS 19
abbrev N_links_hold : List Str := ["links", "numbers", "i", "j", "strict"]
theorem sc_links_hold : FnScope N_links_hold ["links", "numbers"] (defScope s_links_hold) := ⟨rfl, rfl, rfl, by decide +kernel, rfl, by decide +kernel, by decide +kernel⟩

abbrev s_judge_taste : Stmt := topS 20
abbrev N_judge_taste : List Str := ["data", "taste", "numbers", "weights", "count", "i", "j"]
theorem sc_judge_taste : FnScope N_judge_taste ["data", "taste"] (defScope s_judge_taste) := ⟨rfl, rfl, rfl, by decide +kernel, rfl, by decide +kernel, by decide +kernel⟩

def linkM (ns : List Rat) (l : Link) : Bool := decide (ns.getD l.a default < ns.getD l.b default) || (l.c && decide (ns.getD l.a default = ns.getD l.b default))
def holdM (ls : List Link) (ns : List Rat) : Bool := ls.all fun l => !linkM ns l
def LinksOk (n : Nat) (ls : List Link) : Prop := ∀ l ∈ ls, l.a < n ∧ l.b < n
abbrev sp_links_hold := sp2 (fun ls ns => LinksOk ns.length ls ∧ FitL 1000000 ns) holdM
theorem all_take {α : Type} {l : List α} {i : Nat} {x : α} {p : α → Bool} (h : l[i]? = some x) (hp : p x = true) (ha : (l.take i).all p = true) : (l.take (i + 1)).all p = true := by
  rw [List.take_add_one, h, List.all_append, ha]
  simp [hp]
theorem all_no {α : Type} {l : List α} {i : Nat} {x : α} {p : α → Bool} (h : l[i]? = some x) (hp : p x = false) : l.all p = false := by
  rw [List.all_eq_false]
  exact ⟨x, List.mem_of_getElem? h, by rw [hp]; simp⟩
theorem ok_links_hold {f : Addr} {fd : FuncData} (F : Fun K "links_hold" "links_hold" s_links_hold f fd) (B : Bi P mg base) (Cless : Cal P w K mg base 40 "less" ["a", "b"] (sp_less K)) : FnOk P w K mg base CX0 41 f fd ["links", "numbers"] (sp_links_hold K) :=
  fn_st F sc_links_hold (fun _ => rfl) fun cdv A' outer s H E hr => ⟨_,
(pss_cons (ps_for PassesOwn.never rfl (pi_list (pv 0)) (pg_tup rfl (pgs_cons (pg_name (i := 2) sc_links_hold.nd rfl (.inl rfl)) (pgs_cons (pg_name (i := 3) sc_links_hold.nd rfl (.inl rfl)) (pgs_cons (pg_name (i := 4) sc_links_hold.nd rfl (.inl rfl)) pgs_nil))))
(pss_one (ps_if (PW.pt (pw_or (pt_val (pe_cal Cless (hr.mono (by decide)) (by rfl) (pa_cons (pe_ix ix_list (pv 1) (pv 2) (fun _ _ => rfl)) (pa_cons (pe_ix ix_list (pv 1) (pv 3) (fun _ _ => rfl)) pa_nil)))) (pw_or1 (PW.pt (pw_and (pt_val (pv 4)) (pw_and1 (pt_cmpR (op_eqD hr.units) (pe_ix ix_list (pv 1) (pv 2) (fun _ _ => rfl)) (pe_ix ix_list (pv 1) (pv 3) (fun _ _ => rfl)) (nomark _))))))))
(pss_one (ps_ret pe_bl))
pss_nil)))
(pss_one (ps_ret pe_bl))), 
fun ⟨ls, ns⟩ hp => by
    show StD K [pureS ls, pureS ns, none, none, none] _ _
    obtain ⟨h1, h2⟩ : LinksOk ns.length ls ∧ FitL 1000000 ns := hp
    refine st_seq (st_forL (fun i G' => (∃ s2 s3 s4, G' = [pureS ls, pureS ns, s2, s3, s4]) ∧ (ls.take i).all (fun l => !linkM ns l) = true) (evd_var rfl) ⟨⟨_, _, _, rfl⟩, by simp⟩ (fun i x G' hx hI => ?_) fun G' hI => ?_)
    · obtain ⟨⟨s2, s3, s4, rfl⟩, hI⟩ := hI
      obtain ⟨ha, hb⟩ := h1 x (List.mem_of_getElem? hx)
      have fa := (h2.getD ha).mono (show 1000000 ≤ 40000000 by decide)
      have fb := (h2.getD hb).mono (show 1000000 ≤ 40000000 by decide)
      refine ⟨_, gd_tup3 gd_name gd_name gd_name, st_if (b := linkM ns x) ?_ (fun h => ?_) (fun h => ?_)⟩
      · exact evb_or (evb_B (evd_call2 (evd_ix (evd_var rfl).l (evd_var rfl) ha) (evd_ix (evd_var rfl).l (evd_var rfl) hb) ⟨fa, fb⟩)) fun z => (evb_and (evb_B (evd_var rfl)) fun z => (evb_test (evd_eqR (evd_ix (evd_var rfl).l (evd_var rfl) ha) (evd_ix (evd_var rfl).l (evd_var rfl) hb))))
      · exact st_ret evd_bl rfl (all_no (p := fun l => !linkM ns l) hx (by rw [h]; rfl)).symm
      · exact st_next ⟨⟨_, _, _, rfl⟩, all_take (p := fun l => !linkM ns l) hx (by rw [h]; rfl) hI⟩
    · obtain ⟨⟨s2, s3, s4, rfl⟩, hI⟩ := hI
      rw [List.take_length] at hI
      exact st_ret evd_bl rfl hI.symm
⟩
structure DOk (d : DataM) : Prop where
  buys : BuysOk d.goods d.buys
  links : LinksOk d.buys.length d.links
def tastePart (bs : List Buy) (t : List Rat × List Rat) (i : Nat) : Bool := !(decide (t.2.getD i default ≤ 0)) && allN bs.length fun j => !decide (planeM bs t i (bs.getD j default).2 < t.1.getD j default)
def judgeM (d : DataM) (t : List Rat × List Rat) : Bool :=
  if (!decide (t.1.length = d.buys.length) || !decide (t.2.length = d.buys.length)) = true then false else allN d.buys.length (tastePart d.buys t) && holdM d.links t.1
abbrev sp_judge_taste := sp2 (fun d (t : List Rat × List Rat) => DOk d ∧ FitL 1000000 t.1 ∧ FitL 1000000 t.2) judgeM
theorem ok_judge_taste {f : Addr} {fd : FuncData} (F : Fun K "judge_taste" "judge_taste" s_judge_taste f fd) (B : Bi P mg base) (Z : Zc K mg aZ aO) (Cless : Cal P w K mg base 40 "less" ["a", "b"] (sp_less K)) (Cat_most : Cal P w K mg base 40 "at_most" ["a", "b"] (sp_at_most K)) (Cplane : Cal P w K mg base 44 "plane" ["data", "taste", "i", "basket"] (sp_plane K)) (Clinks_hold : Cal P w K mg base 41 "links_hold" ["links", "numbers"] (sp_links_hold K)) : FnOk P w K mg base CX0 45 f fd ["data", "taste"] (sp_judge_taste K) :=
  fn_st F sc_judge_taste (fun _ => rfl) fun cdv A' outer s H E hr => ⟨_,
(pss_cons (ps_asg (pv 1) (pg_tup rfl (pgs_cons (pg_name (i := 2) sc_judge_taste.nd rfl (.inl rfl)) (pgs_cons (pg_name (i := 3) sc_judge_taste.nd rfl (.inl rfl)) pgs_nil))))
(pss_cons (ps_set (i := 4) sc_judge_taste.nd rfl (.inl rfl) (pe_callB call_len_seq (by rfl) B.len PySem.boot_len (pa_cons (pe_fld (pv 0) rfl) pa_nil)))
(pss_cons (ps_if (PW.pt (pw_or (pt_cmpR op_ne (pe_callB call_len_seq (by rfl) B.len PySem.boot_len (pa_cons (pv 2) pa_nil)) (pv 4) (nomark _)) (pw_or1 (pt_cmpR op_ne (pe_callB call_len_seq (by rfl) B.len PySem.boot_len (pa_cons (pv 3) pa_nil)) (pv 4) (nomark _)))))
(pss_one (ps_ret pe_bl))
pss_nil)
(pss_cons (ps_for PassesOwn.never rfl (pi_range1 (by rfl) B.range (pa_cons (pv 4) pa_nil)) (pg_name (i := 5) sc_judge_taste.nd rfl (.inl rfl))
(pss_cons (ps_if (pt_val (pe_cal Cat_most (hr.mono (by decide)) (by rfl) (pa_cons (pe_ix ix_list (pv 3) (pv 5) (fun _ _ => rfl)) (pa_cons (pe_glob (v := .ref aZ) (by rfl) Z.zero rfl) pa_nil))))
(pss_one (ps_ret pe_bl))
pss_nil)
(pss_one (ps_for PassesOwn.never rfl (pi_range1 (by rfl) B.range (pa_cons (pv 4) pa_nil)) (pg_name (i := 6) sc_judge_taste.nd rfl (.inl rfl))
(pss_one (ps_if (pt_val (pe_cal Cless (hr.mono (by decide)) (by rfl) (pa_cons (pe_cal Cplane (hr.mono (by decide)) (by rfl) (pa_cons (pv 0) (pa_cons (pv 1) (pa_cons (pv 5) (pa_cons (pe_ix ix_tup (pe_ix ix_list (pe_fld (pv 0) rfl) (pv 6) (fun _ _ => rfl)) pe_int (fun _ _ => rfl)) pa_nil))))) (pa_cons (pe_ix ix_list (pv 2) (pv 6) (fun _ _ => rfl)) pa_nil))))
(pss_one (ps_ret pe_bl))
pss_nil))))))
(pss_one (ps_ret (pe_cal Clinks_hold (hr.mono (by decide)) (by rfl) (pa_cons (pe_fld (pv 0) rfl) (pa_cons (pv 2) pa_nil))))))))), 
fun ⟨d, t⟩ hp => by
    obtain ⟨ns, ws⟩ := t
    show StD K [pureS d, pureS (ns, ws), none, none, none, none, none] _ _
    obtain ⟨h0, h1, h2⟩ : DOk d ∧ FitL 1000000 ns ∧ FitL 1000000 ws := hp
    refine st_seq (st_asg (evd_var rfl) (gd_tup2 gd_name gd_name) ?_)
    refine st_seq (st_set (len_of (evd_buys (evd_var rfl)).l) ?_)
    refine st_seq (st_if (evb_or (evb_test (evd_neN (len_of (evd_var rfl).l) (evd_var rfl))) fun z => (evb_test (evd_neN (len_of (evd_var rfl).l) (evd_var rfl)))) (fun h => ?_) (fun h => st_next ?_))
    · exact st_ret evd_bl rfl (by unfold judgeM; rw [if_pos h])
    · have e0 : judgeM d (ns, ws) = (allN d.buys.length (tastePart d.buys (ns, ws)) && holdM d.links ns) := by
        unfold judgeM
        rw [if_neg (by simp only at h ⊢; rw [h]; simp)]
      simp only [Bool.or_eq_false_iff, Bool.not_eq_false', decide_eq_true_eq] at h
      obtain ⟨l1, l2⟩ := h
      refine st_seq (st_forR (fun i G' => (∃ s5 s6, G' = [pureS d, pureS (ns, ws), pureS ns, pureS ws, pureS d.buys.length, s5, s6]) ∧ allN i (tastePart d.buys (ns, ws)) = true) (evd_var rfl) (by have := h0.buys.len; omega) ⟨⟨_, _, rfl⟩, rfl⟩ (fun i G' hi hI => ?_) fun G' hI => ?_)
      · obtain ⟨⟨s5, s6, rfl⟩, hI⟩ := hI
        have fw := (h2.getD (k := i) (by omega))
        refine st_seq (st_if (evb_B (evd_call2 (evd_ix (evd_var rfl).l (evd_var rfl) (by omega)) (evd_const Z.zt) ⟨fw.mono (by decide), fit_zero (by decide)⟩)) (fun h => ?_) (fun h => st_next ?_))
        · refine st_ret evd_bl rfl ?_
          rw [e0, allN_false hi (by unfold tastePart; simp only; rw [h]; rfl)]
          rfl
        · refine st_forR (fun j G' => (∃ s6, G' = [pureS d, pureS (ns, ws), pureS ns, pureS ws, pureS d.buys.length, pureS i, s6]) ∧ allN j (fun j => !decide (planeM d.buys (ns, ws) i (d.buys.getD j default).2 < ns.getD j default)) = true) (evd_var rfl) (by have := h0.buys.len; omega) ⟨⟨_, rfl⟩, rfl⟩ (fun j G' hj hJ => ?_) fun G' hJ => ?_
          · obtain ⟨⟨s6, rfl⟩, hJ⟩ := hJ
            have pk : PlaneOk d (ns, ws) i (d.buys.getD j default).2 := ⟨h0.buys, hi, (by show i < ns.length; omega), (by show i < ws.length; omega), h0.buys.bas hj, h1.getD (by omega), fw⟩
            refine st_if (evb_B (evd_call2 (evd_call4 (evd_var rfl) (evd_var rfl) (evd_var rfl) (evd_snd (evd_ix (evd_buys (evd_var rfl)).l (evd_var rfl) hj)) pk) (evd_ix (evd_var rfl).l (evd_var rfl) (by omega)) ⟨pk.fit.mono (by decide), (h1.getD (by omega)).mono (by decide)⟩)) (fun h' => ?_) (fun h' => st_next ?_)
            · refine st_ret evd_bl rfl ?_
              rw [e0, allN_false hi (by
                unfold tastePart
                rw [allN_false (k := j) hj (by simp only; rw [h']; rfl)]
                simp)]
              rfl
            · refine ⟨⟨_, rfl⟩, ?_⟩
              show (allN j _ && _) = true
              rw [hJ]
              simp only
              rw [h']
              rfl
          · obtain ⟨⟨s6, rfl⟩, hJ⟩ := hJ
            refine ⟨⟨_, _, rfl⟩, ?_⟩
            show (allN i _ && _) = true
            rw [hI]
            unfold tastePart
            simp only
            rw [h, hJ]
            rfl
      · obtain ⟨⟨s5, s6, rfl⟩, hI⟩ := hI
        refine st_ret (evd_call2 (evd_links (evd_var rfl)) (evd_var rfl) ⟨by rw [l1]; exact h0.links, h1⟩) rfl ?_
        rw [e0, hI]
        rfl
⟩

end BB

/-! the judges, steps -/
namespace BB
open PySem PySem.Spec L2
variable {P : Program} {w : World} {K : KF} {mg : Str → Option Value} {base : Heap} {aZ aO : Addr}

/-! ### step, judge_chain, step_table -/
abbrev s_step : Stmt := topS 22
abbrev N_step : List Str := ["data", "i", "j", "result", "price", "money", "first", "second", "strict"]
theorem sc_step : FnScope N_step ["data", "i", "j"] (defScope s_step) := ⟨rfl, rfl, rfl, by decide +kernel, rfl, by decide +kernel, by decide +kernel⟩

def linkStep (i j : Nat) (r : Option Bool) (l : Link) : Option Bool := if (decide (l.a = i) && decide (l.b = j)) = true then some (decide (r = some true) || l.c) else r
def costStep (bs : List Buy) (i j : Nat) : Option Bool := if i = j then none else if coM bs i (bs.getD j default).2 ≤ spM bs i then some (decide (coM bs i (bs.getD j default).2 < spM bs i)) else none
def stepM (bs : List Buy) (ls : List Link) (i j : Nat) : Option Bool := ls.foldl (linkStep i j) (costStep bs i j)
structure StepOk (d : DataM) (i j : Nat) : Prop where
  buys : BuysOk d.goods d.buys
  hi : i < d.buys.length
  hj : j < d.buys.length
abbrev sp_step := sp3 StepOk (fun d i j => stepM d.buys d.links i j)
theorem foldl_take {α β : Type} {l : List α} {i : Nat} {x : α} {f : β → α → β} {b : β} (h : l[i]? = some x) : (l.take (i + 1)).foldl f b = f ((l.take i).foldl f b) x := by
  rw [List.take_add_one, h, List.foldl_append]
  rfl
theorem ok_step {f : Addr} {fd : FuncData} (F : Fun K "step" "step" s_step f fd) (B : Bi P mg base) (Cless : Cal P w K mg base 40 "less" ["a", "b"] (sp_less K)) (Cat_most : Cal P w K mg base 40 "at_most" ["a", "b"] (sp_at_most K)) (Ccost : Cal P w K mg base 43 "cost" ["prices", "amounts"] (sp_cost K)) (Cspent : Cal P w K mg base 43 "spent" ["data", "i"] (sp_spent K)) : FnOk P w K mg base CX0 44 f fd ["data", "i", "j"] (sp_step K) :=
  fn_st F sc_step (fun _ => rfl) fun cdv A' outer s H E hr => ⟨_,
(pss_cons (ps_set (i := 3) sc_step.nd rfl (.inl rfl) pe_non)
(pss_cons (ps_if (pt_cmpR op_ne (pv 1) (pv 2) (nomark _))
(pss_cons (ps_set (i := 4) sc_step.nd rfl (.inl rfl) (pe_cal Ccost (hr.mono (by decide)) (by rfl) (pa_cons (pe_ix ix_tup (pe_ix ix_list (pe_fld (pv 0) rfl) (pv 1) (fun _ _ => rfl)) pe_int (fun _ _ => rfl)) (pa_cons (pe_ix ix_tup (pe_ix ix_list (pe_fld (pv 0) rfl) (pv 2) (fun _ _ => rfl)) pe_int (fun _ _ => rfl)) pa_nil))))
(pss_cons (ps_set (i := 5) sc_step.nd rfl (.inl rfl) (pe_cal Cspent (hr.mono (by decide)) (by rfl) (pa_cons (pv 0) (pa_cons (pv 1) pa_nil))))
(pss_one (ps_if (pt_val (pe_cal Cat_most (hr.mono (by decide)) (by rfl) (pa_cons (pv 4) (pa_cons (pv 5) pa_nil))))
(pss_one (ps_set (i := 3) sc_step.nd rfl (.inl rfl) (pe_cal Cless (hr.mono (by decide)) (by rfl) (pa_cons (pv 4) (pa_cons (pv 5) pa_nil)))))
pss_nil))))
pss_nil)
(pss_cons (ps_for PassesOwn.never rfl (pi_list (pe_fld (pv 0) rfl)) (pg_tup rfl (pgs_cons (pg_name (i := 6) sc_step.nd rfl (.inl rfl)) (pgs_cons (pg_name (i := 7) sc_step.nd rfl (.inl rfl)) (pgs_cons (pg_name (i := 8) sc_step.nd rfl (.inl rfl)) pgs_nil))))
(pss_one (ps_if (PW.pt (pw_and (pt_cmpR op_eq (pv 6) (pv 1) (nomark _)) (pw_and1 (pt_cmpR op_eq (pv 7) (pv 2) (nomark _)))))
(pss_one (ps_set (i := 3) sc_step.nd rfl (.inl rfl) (pe_or (pe_cmpR op_isT (pv 3) pe_bl (nomark _)) (pe_one (pv 8)))))
pss_nil)))
(pss_one (ps_ret (pv 3)))))), 
fun ⟨d, i, j⟩ hp => by
    show StD K [pureS d, pureS i, pureS j, none, none, none, none, none, none] _ _
    have hp : StepOk d i j := hp
    refine st_seq (st_set evd_non (x := (none : Option Bool)) ?_)
    refine st_mid (fun G' => ∃ s4 s5, G' = [pureS d, pureS i, pureS j, pureS (costStep d.buys i j), s4, s5, none, none, none]) ?_ ?_
    · refine st_if (evb_test (evd_neN (evd_var rfl) (evd_var rfl))) (fun h => ?_) (fun h => ?_)
      · have h : ¬ i = j := by simpa using h
        have c1 := (hp.buys.co hp.hi (hp.buys.bas hp.hj)).mono (show 521 ≤ 40000000 by decide)
        have c2 := (hp.buys.sp hp.hi).mono (show 521 ≤ 40000000 by decide)
        refine st_seq (st_set (evd_call2 (evd_fst (evd_ix (evd_buys (evd_var rfl)).l (evd_var rfl) hp.hi)) (evd_snd (evd_ix (evd_buys (evd_var rfl)).l (evd_var rfl) hp.hj)) (hp.buys.dot hp.hi (hp.buys.bas hp.hj))) ?_)
        refine st_seq (st_set (evd_call2 (evd_var rfl) (evd_var rfl) ⟨hp.buys, hp.hi⟩) ?_)
        refine st_if (evb_B (evd_call2 (evd_var rfl) (evd_var rfl) ⟨c1, c2⟩)) (fun h' => ?_) (fun h' => ?_)
        · have e : costStep d.buys i j = some (decide (coM d.buys i (d.buys.getD j default).2 < spM d.buys i)) := by
            unfold costStep
            rw [if_neg h, if_pos (show coM d.buys i (d.buys.getD j default).2 ≤ spM d.buys i from of_decide_eq_true h')]
          rw [e]
          exact st_set (evd_call2 (evd_var rfl) (evd_var rfl) ⟨c1, c2⟩).some ⟨_, _, rfl⟩
        · have e : costStep d.buys i j = none := by
            unfold costStep
            rw [if_neg h, if_neg (show ¬ coM d.buys i (d.buys.getD j default).2 ≤ spM d.buys i from of_decide_eq_false h')]
          rw [e]
          exact st_next ⟨_, _, rfl⟩
      · have h : i = j := by simpa using h
        have e : costStep d.buys i j = none := by
          unfold costStep
          rw [if_pos h]
        rw [e]
        exact st_next ⟨_, _, rfl⟩
    · rintro G' ⟨s4, s5, rfl⟩
      refine st_seq (st_forL (fun k G' => ∃ s6 s7 s8, G' = [pureS d, pureS i, pureS j, pureS ((d.links.take k).foldl (linkStep i j) (costStep d.buys i j)), s4, s5, s6, s7, s8]) (evd_links (evd_var rfl)) ⟨_, _, _, rfl⟩ (fun k x G' hx hI => ⟨_, gd_tup3 gd_name gd_name gd_name, ?_⟩) fun G' hI => ?_)
      · obtain ⟨s6, s7, s8, rfl⟩ := hI
        refine st_if (evb_and (evb_test (evd_eqN (evd_var rfl) (evd_var rfl))) fun z => (evb_test (evd_eqN (evd_var rfl) (evd_var rfl)))) (fun h => ?_) (fun h => ?_)
        · have e : linkStep i j ((d.links.take k).foldl (linkStep i j) (costStep d.buys i j)) x = some (decide ((d.links.take k).foldl (linkStep i j) (costStep d.buys i j) = some true) || x.c) := if_pos h
          rw [foldl_take hx, e]
          exact st_set (evd_orV (evd_isT (evd_var rfl)) fun z => (evd_var rfl)).some ⟨_, _, _, rfl⟩
        · have e : linkStep i j ((d.links.take k).foldl (linkStep i j) (costStep d.buys i j)) x = (d.links.take k).foldl (linkStep i j) (costStep d.buys i j) := if_neg (by rw [h]; simp)
          rw [foldl_take hx, e]
          exact st_next ⟨_, _, _, rfl⟩
      · obtain ⟨s6, s7, s8, rfl⟩ := hI
        rw [List.take_length]
        exact st_ret (evd_var rfl) rfl rfl
⟩
end BB

/-! the judges, steps -/
namespace BB
open PySem PySem.Spec L2
variable {P : Program} {w : World} {K : KF} {mg : Str → Option Value} {base : Heap} {aZ aO : Addr}

abbrev s_step_table : Stmt := topS 24
abbrev N_step_table : List Str := ["data", "count", "j", "i"]
theorem sc_step_table : FnScope N_step_table ["data"] (defScope s_step_table) := ⟨rfl, rfl, rfl, by decide +kernel, rfl, by decide +kernel, by decide +kernel⟩

def tableM (bs : List Buy) (ls : List Link) : List (List (Option Bool)) := (List.range bs.length).map fun i => (List.range bs.length).map fun j => stepM bs ls i j
abbrev sp_step_table := sp1 (fun (d : DataM) => BuysOk d.goods d.buys) (fun (d : DataM) => tableM d.buys d.links)
theorem ok_step_table {f : Addr} {fd : FuncData} (F : Fun K "step_table" "step_table" s_step_table f fd) (B : Bi P mg base) (Cstep : Cal P w K mg base 44 "step" ["data", "i", "j"] (sp_step K)) : FnOk P w K mg base CX0 45 f fd ["data"] (sp_step_table K) :=
  fn_st F sc_step_table (fun _ => rfl) fun cdv A' outer s H E hr => ⟨_,
(pss_cons (ps_set (i := 1) sc_step_table.nd rfl (.inr rfl) (pe_callB call_len_seq (by rfl) B.len PySem.boot_len (pa_cons (pe_fld (pv 0) rfl) pa_nil)))
(pss_one (ps_ret (pe_lc (own := [("i", 3)]) (g := gName 3) (tt := tYes) rfl sc_step_table.nd (pi_range1 (by rfl) B.range (pa_cons (pv 1) pa_nil)) (blkOk_by (N := N_step_table) (sc := defScope s_step_table) (by decide +kernel)) (fun _ _ _ _ _ => (pg_name (i := 3) sc_step_table.nd rfl (.inr rfl))) (fun _ _ _ _ _ => pts_nil) (fun _ _ _ _ _ => (pe_lc (own := [("j", 2)]) (g := gName 2) (tt := tYes) rfl sc_step_table.nd (pi_range1 (by rfl) B.range (pa_cons (pv 1) pa_nil)) (blkOk_by (N := N_step_table) (sc := (relS { kind := .function, names := [(".0", .local), ("i", .cell), ("range", .globalImplicit), ("count", .free), ("data", .free)], isGenerator := false, isCoroutine := false, more := [] } (defScope s_step_table))) (by decide +kernel)) (fun _ _ _ _ _ => (pg_name (i := 2) sc_step_table.nd rfl (.inl rfl))) (fun _ _ _ _ _ => pts_nil) (fun _ _ _ _ _ => (pe_cal Cstep (hr.mono (by decide)) (by rfl) (pa_cons (pv 0) (pa_cons (pv 3) (pa_cons (pv 2) pa_nil))))))))))), 
fun d hp => by
    show StD K [pureS d, none, none, none] _ _
    have hp : BuysOk d.goods d.buys := hp
    have hl := hp.len
    refine st_seq (st_set (len_of (evd_buys (evd_var rfl)).l) ?_)
    exact st_ret (EvN.d (evn_lcR0 (fun i => (List.range d.buys.length).map fun j => stepM d.buys d.links i j) (evd_var rfl) (by omega) (by decide) (fun i hi => EvN.d (evn_lcR0 (fun j => stepM d.buys d.links i j) (evd_var rfl) (by omega) (by decide) (fun j hj => evd_call3 (evd_var rfl) (evd_var rfl) (evd_var rfl) ⟨hp, hi, hj⟩))))) rfl rfl
⟩
end BB

/-! the judges, steps -/
namespace BB
open PySem PySem.Spec L2
variable {P : Program} {w : World} {K : KF} {mg : Str → Option Value} {base : Heap} {aZ aO : Addr}

abbrev s_judge_chain : Stmt := topS 23
abbrev N_judge_chain : List Str := ["data", "chain", "count", "i", "strict", "k", "one"]
theorem sc_judge_chain : FnScope N_judge_chain ["data", "chain"] (defScope s_judge_chain) := ⟨rfl, rfl, rfl, by decide +kernel, rfl, by decide +kernel, by decide +kernel⟩

/-- a chain of steps -/
structure ChainOk (bs : List Buy) (ls : List Link) (c : List Nat) : Prop where
  ne : c ≠ []
  lt : ∀ x ∈ c, x < bs.length
  st : ∀ k, k + 1 < c.length → (stepM bs ls (c.getD k default) (c.getD (k + 1) default)).isSome = true
def strictTo (bs : List Buy) (ls : List Link) (c : List Nat) (n : Nat) : Bool := iter n (fun k b => b || decide (stepM bs ls (c.getD k default) (c.getD (k + 1) default) = some true)) false
abbrev sp_judge_chain := sp2 (fun (d : DataM) (c : List Nat) => BuysOk d.goods d.buys ∧ ChainOk d.buys d.links c ∧ c.length ≤ 1000) (fun (d : DataM) (c : List Nat) => some (strictTo d.buys d.links c (c.length - 1)))
theorem getD_lt {c : List Nat} {n k : Nat} (h : ∀ x ∈ c, x < n) (hk : k < c.length) : c.getD k default < n := by
  rw [List.getD_eq_getElem?_getD, List.getElem?_eq_getElem hk]
  exact h _ (List.getElem_mem hk)
theorem ok_judge_chain {f : Addr} {fd : FuncData} (F : Fun K "judge_chain" "judge_chain" s_judge_chain f fd) (B : Bi P mg base) (Cstep : Cal P w K mg base 44 "step" ["data", "i", "j"] (sp_step K)) : FnOk P w K mg base CX0 45 f fd ["data", "chain"] (sp_judge_chain K) :=
  fn_st F sc_judge_chain (fun _ => rfl) fun cdv A' outer s H E hr => ⟨_,
(pss_cons (ps_set (i := 2) sc_judge_chain.nd rfl (.inl rfl) (pe_callB call_len_seq (by rfl) B.len PySem.boot_len (pa_cons (pe_fld (pv 0) rfl) pa_nil)))
(pss_cons (ps_if (pt_not (pt_truth (pv 1) (fun _ => rfl)))
(pss_one (ps_ret pe_non))
pss_nil)
(pss_cons (ps_for PassesOwn.never rfl (pi_list (pv 1)) (pg_name (i := 3) sc_judge_chain.nd rfl (.inl rfl))
(pss_one (ps_if (pt_not (pt_chain op_le op_lt pe_int (pv 3) (pv 2)))
(pss_one (ps_ret pe_non))
pss_nil)))
(pss_cons (ps_set (i := 4) sc_judge_chain.nd rfl (.inl rfl) pe_bl)
(pss_cons (ps_for PassesOwn.never rfl (pi_range1 (by rfl) B.range (pa_cons (pe_op op_sub (pe_callB call_len_seq (by rfl) B.len PySem.boot_len (pa_cons (pv 1) pa_nil)) pe_int) pa_nil)) (pg_name (i := 5) sc_judge_chain.nd rfl (.inl rfl))
(pss_cons (ps_set (i := 6) sc_judge_chain.nd rfl (.inl rfl) (pe_cal Cstep (hr.mono (by decide)) (by rfl) (pa_cons (pv 0) (pa_cons (pe_ix ix_list (pv 1) (pv 5) (fun _ _ => rfl)) (pa_cons (pe_ix ix_list (pv 1) (pe_op op_add (pv 5) pe_int) (fun _ _ => rfl)) pa_nil)))))
(pss_cons (ps_if (pt_cmpR op_isN (pv 6) pe_non (nomark _))
(pss_one (ps_ret pe_non))
pss_nil)
(pss_one (ps_set (i := 4) sc_judge_chain.nd rfl (.inl rfl) (pe_or (pv 4) (pe_one (pv 6))))))))
(pss_one (ps_ret (pv 4)))))))), 
fun ⟨d, c⟩ hp => by
    show StD K [pureS d, pureS c, none, none, none, none, none] _ _
    obtain ⟨hb, hc, hl⟩ : BuysOk d.goods d.buys ∧ ChainOk d.buys d.links c ∧ c.length ≤ 1000 := hp
    have hpos : 0 < c.length := List.length_pos_iff.mpr hc.ne
    refine st_seq (st_set (len_of (evd_buys (evd_var rfl)).l) ?_)
    refine st_seq (st_if (evb_not (evb_truL (evd_var rfl).l)) (fun h => ?_) (fun h => st_next ?_))
    · exact absurd (by simpa using h) hc.ne
    refine st_seq (st_forL (fun i G' => ∃ s3, G' = [pureS d, pureS c, pureS d.buys.length, s3, none, none, none]) (evd_var rfl) ⟨_, rfl⟩ (fun i x G' hx hI => ⟨_, gd_name, ?_⟩) fun G' hI => ?_)
    · obtain ⟨s3, rfl⟩ := hI
      have hx' := hc.lt x (List.mem_of_getElem? hx)
      refine st_if (evb_not (evb_test (evd_chain evd_int (evd_var (x := x) rfl).int (evd_var (x := d.buys.length) rfl).int))) (fun h => ?_) (fun h => ?_)
      · simp [hx'] at h
      · exact st_next ⟨_, rfl⟩
    · obtain ⟨s3, rfl⟩ := hI
      refine st_seq (st_set evd_bl ?_)
      refine st_seq (st_forR (n := c.length - 1) (fun i G' => ∃ s5 s6, G' = [pureS d, pureS c, pureS d.buys.length, s3, pureS (strictTo d.buys d.links c i), s5, s6]) (EvD.nat (evd_sub (len_of (evd_var rfl).l).int evd_int) (by omega)) (by omega) ⟨_, _, rfl⟩ (fun i G' hi hI => ?_) fun G' hI => ?_)
      · obtain ⟨s5, s6, rfl⟩ := hI
        have hs := hc.st i (by omega)
        refine st_seq (st_set (evd_call3 (evd_var rfl) (evd_ix (evd_var rfl).l (evd_var rfl) (by omega)) (evd_ix (i := i + 1) (evd_var rfl).l (EvD.nat (evd_add (evd_var (x := i) rfl).int evd_int) rfl) (by omega)) ⟨hb, getD_lt hc.lt (by omega), getD_lt hc.lt (by omega)⟩) ?_)
        obtain ⟨b, hb'⟩ := Option.isSome_iff_exists.mp hs
        have e1 : strictTo d.buys d.links c (i + 1) = (strictTo d.buys d.links c i || b) := by
          show (strictTo d.buys d.links c i || decide (stepM d.buys d.links (c.getD i default) (c.getD (i + 1) default) = some true)) = _
          rw [hb']
          cases b <;> simp
        show StD K [pureS d, pureS c, pureS d.buys.length, s3, pureS (strictTo d.buys d.links c i), pureS i, pureS (stepM d.buys d.links (c.getD i default) (c.getD (i + 1) default))] _ _
        rw [hb']
        refine st_seq (st_if (evb_test (evd_isN (evd_var rfl))) (fun h => ?_) (fun h => st_next ?_))
        · simp at h
        · rw [e1]
          exact st_set (evd_orV (evd_var rfl) fun z => EvD.val (evd_var (x := some b) rfl)) ⟨_, _, rfl⟩
      · obtain ⟨s5, s6, rfl⟩ := hI
        exact st_ret (evd_var rfl).some rfl rfl
⟩
end BB

/-! a dict whose keys are pairs of an int and a bool, whose values are objects -/
namespace BB
open PySem PySem.Spec L2

structure FE where
  k : Int
  s : Bool
  b : Addr
  l : Addr
def keyL (k : Int) (s : Bool) : List Leaf := [.num k, .num (if s then 1 else 0)]
theorem keyL_inj {k k' : Int} {s s' : Bool} (h : keyL k s = keyL k' s') : k = k' ∧ s = s' := by
  unfold keyL at h
  injection h with h1 h2
  injection h2 with h2 _
  injection h1 with h1
  injection h2 with h2
  refine ⟨h1, ?_⟩
  cases s <;> cases s' <;> first | rfl | exact absurd h2 (by decide)
def FE.x (e : FE) : List Leaf × Addr × Value := (keyL e.k e.s, e.b, .ref e.l)
def fAt (es : List FE) (k : Int) (s : Bool) : Option Addr := (es.find? fun e => decide (e.k = k) && decide (e.s = s)).map (·.l)
theorem atKey_f {k : Int} {s : Bool} : ∀ {es : List FE}, (atKey (es.map FE.x) (keyL k s)).map (·.2) = (fAt es k s).map Value.ref
  | [] => rfl
  | e :: es => by
    by_cases h : e.k = k ∧ e.s = s
    · have h1 : (FE.x e).1 = keyL k s := by unfold FE.x; rw [h.1, h.2]
      have a : atKey ((e :: es).map FE.x) (keyL k s) = some (FE.x e).2 := by
        unfold atKey
        rw [List.map_cons, List.find?_cons, decide_eq_true h1]
        rfl
      have b : fAt (e :: es) k s = some e.l := by
        unfold fAt
        rw [List.find?_cons, decide_eq_true h.1, decide_eq_true h.2]
        rfl
      rw [a, b]
      rfl
    · have h1 : ¬ (FE.x e).1 = keyL k s := fun z => h (keyL_inj z)
      have a : atKey ((e :: es).map FE.x) (keyL k s) = atKey (es.map FE.x) (keyL k s) := by
        unfold atKey
        rw [List.map_cons, List.find?_cons, decide_eq_false h1]
      have b : fAt (e :: es) k s = fAt es k s := by
        unfold fAt
        rw [List.find?_cons]
        have : (decide (e.k = k) && decide (e.s = s)) = false := by
          rw [Bool.eq_false_iff]
          intro z
          rw [Bool.and_eq_true, decide_eq_true_eq, decide_eq_true_eq] at z
          exact h z
        rw [this]
      rw [a, b]
      exact atKey_f
def RawD (P : Program) (w : World) (d : Addr) (es : List FE) (h : Heap) : Prop := ∃ o a ep, h.get? d = some o ∧ o.ExactDict ∧ o.data = .dict a ep ∧ a.toList = (es.map FE.x).map (entryOfKey (tupleKind (leafKind P w)))
def fobj (P : Program) (w : World) (d : Addr) (es : List FE) : HO := .ext (RawD P w d es)
structure FOk (P : Program) (w : World) (H : Hp) (d : Addr) (es : List FE) : Prop where
  at_ : H d = some (fobj P w d es)
  ns : (d == sysModules) = false
  nd : ((es.map FE.x).map (·.1)).Nodup
  ks : ∀ e ∈ es, H e.b = some (.tup [.int e.k, .bl e.s])
  sz : es.length ≤ 100000
section
variable {X : Cx} {pins : List (Addr × Obj)} {σ : L2.St} {H : Hp} {s : Shared} {d b : Addr} {es : List FE} {k : Int} {c : Bool} {A : Around} {E : Value → Shared → Prop}
theorem key_lf (I : Inv X pins σ H s) (h : H b = some (.tup [.int k, .bl c])) : (tupleKind (leafKind X.prog X.w)).is s.heap (keyL k c) b := by
  obtain ⟨_, its, r, o, h1, h2, n, h3⟩ := (show ObjOk X.prog X.w H s.heap b (.tup [.int k, .bl c]) from I.hok b _ h)
  refine ⟨o, its.toArray, n, h1, h2, h3, ?_⟩
  cases r with
  | cons r1 r2 =>
    cases r2 with
    | cons r3 r4 =>
      cases r4
      obtain ⟨t, rfl⟩ := r1
      cases r3
      refine .cons (PyProof.Rows.leaf_int k t) (.cons ?_ .nil)
      cases c with
      | true => exact PyProof.Rows.leaf_true
      | false => exact PyProof.Rows.leaf_false
theorem FOk.dict (I : Inv X pins σ H s) (f : FOk X.prog X.w H d es) : s.heap.DictOfH (tupleKind (leafKind X.prog X.w)) d (es.map FE.x) := by
  obtain ⟨⟨o, a, ep, h1, h2, h3, h4⟩, _, _⟩ := (show ObjOk X.prog X.w H s.heap d (fobj X.prog X.w d es) from I.hok d _ f.at_)
  refine ⟨o, a, ep, h1, h2, h3, h4, fun x hx => ?_, f.nd⟩
  obtain ⟨e, he, rfl⟩ := List.mem_map.mp hx
  exact key_lf I (f.ks e he)
theorem f_getItem {l : Addr} {u : Value} {Q : Value → Shared → Prop} (hu : A.units + 1 < cLine) (I : Inv X pins σ H s) (f : FOk X.prog X.w H d es) (hb : H b = some (.tup [.int k, .bl c])) (hl : fAt es k c = some l)
    (h : ∀ s', Inv X pins σ H s' → Q (.ref l) s') : wpAny (model X.prog X.w) A (getItem (.ref d) (.ref b)) Q E s := by
  have e : (atKey (es.map FE.x) (keyL k c)).map (·.2) = some (Value.ref l) := by rw [atKey_f, hl]; rfl
  obtain ⟨p, hp, hp2⟩ := Option.map_eq_some_iff.mp e
  refine wpAny_getItem_heap (tupleKind_room_in1 hu) (key_lf I hb) (f.dict I) hp ?_
  rw [hp2]
  exact h _ (I.tok _)
theorem f_isSome : (atKey (es.map FE.x) (keyL k c)).isSome = (fAt es k c).isSome := by
  have e := congrArg Option.isSome (atKey_f (k := k) (s := c) (es := es))
  rw [Option.isSome_map, Option.isSome_map] at e
  exact e
theorem f_in {Q : Value → Shared → Prop} (hu : A.units + 1 < cLine) (I : Inv X pins σ H s) (f : FOk X.prog X.w H d es) (hb : H b = some (.tup [.int k, .bl c])) (h : ∀ s', Inv X pins σ H s' → Q (.bool (fAt es k c).isSome) s') :
    wpAny (model X.prog X.w) A (compareOp .In (.ref b) (.ref d)) Q E s := by
  refine wpAny_in_heap (tupleKind_room_in1 hu) (key_lf I hb) f.ns (f.dict I) ?_
  rw [f_isSome]
  exact h _ (I.tok _)
theorem f_notIn {Q : Value → Shared → Prop} (hu : A.units + 1 < cLine) (I : Inv X pins σ H s) (f : FOk X.prog X.w H d es) (hb : H b = some (.tup [.int k, .bl c])) (h : ∀ s', Inv X pins σ H s' → Q (.bool (!(fAt es k c).isSome)) s') :
    wpAny (model X.prog X.w) A (compareOp .NotIn (.ref b) (.ref d)) Q E s := by
  refine PyProof.Rows.wpAny_notIn_heap (tupleKind_room_in1 hu) (key_lf I hb) f.ns (f.dict I) ?_
  rw [f_isSome]
  exact h _ (I.tok _)
theorem storedH_f {l : Addr} (h : fAt es k c = none) : storedH (es.map FE.x) (keyL k c) b (.ref l) = (es ++ [(⟨k, c, b, l⟩ : FE)]).map FE.x := by
  rw [storedH_new (by
    have e := f_isSome (es := es) (k := k) (c := c)
    rw [h] at e
    exact Option.not_isSome_iff_eq_none.mp (by rw [e]; simp)), List.map_append]
  rfl
theorem raw_of {h' : Heap} {w : World} {P : Program} (hd : h'.DictOfH (tupleKind (leafKind P w)) d (es.map FE.x)) : RawD P w d es h' := by
  obtain ⟨o, a, ep, h1, h2, h3, h4, _⟩ := hd
  exact ⟨o, a, ep, h1, h2, h3, h4⟩
theorem fobj_ok {h' : Heap} {P : Program} {w : World} {H' : Hp} (r : RawD P w d es h') : ObjOk P w H' h' d (fobj P w d es) := by
  refine ⟨r, let ⟨o, _, _, e, _⟩ := r; ⟨o, e⟩, fun h1 h2 r1 hk => ?_⟩
  obtain ⟨o, a, ep, e1, e2, e3, e4⟩ := r1
  exact ⟨o, a, ep, hk o e1, e2, e3, e4⟩
theorem f_setItem {l : Addr} {Q : Unit → Shared → Prop} (hu : A.units + 1 < cLine) (I : Inv X pins σ H s) (f : FOk X.prog X.w H d es) (hb : H b = some (.tup [.int k, .bl c])) (hl : fAt es k c = none)
    (h : ∀ s', Inv X pins σ (upd H d (fobj X.prog X.w d (es ++ [(⟨k, c, b, l⟩ : FE)]))) s' → Q () s') : wpAny (model X.prog X.w) A (setItem (.ref d) (.ref b) (.ref l)) Q E s := by
  refine wpAny_setItem_heap (v := .ref l) (tupleKind_room_in1 hu) (key_lf I hb) (f.dict I) (fun h' hd hs => ?_) (by rw [List.length_map]; exact Nat.le_trans f.sz (by decide))
  rw [storedH_f hl] at hd
  refine h _ (d_write I (by rw [f.at_]; exact True.intro) hs ?_ (fobj_ok (raw_of hd)))
  obtain ⟨o, _, _, e, _⟩ := hd
  exact ⟨o, e⟩
end

/-! ### readings -/
def tFGet (P : Program) (w : World) (td ty : TE) : TE := fun σ H Q => td σ H fun x H1 => ty σ H1 fun y H2 => ∃ d b es k c l, x = .ref d ∧ y = .ref b ∧ FOk P w H2 d es ∧ H2 b = some (.tup [.int k, .bl c]) ∧ fAt es k c = some l ∧ Q (.ref l) H2
def rFIn (P : Program) (w : World) (neg : Bool) : R2 := fun y x H Q => ∃ d b es k c, x = .ref d ∧ y = .ref b ∧ FOk P w H d es ∧ H b = some (.tup [.int k, .bl c]) ∧ Q (.bl (if neg then !(fAt es k c).isSome else (fAt es k c).isSome)) H
def rSetF (P : Program) (w : World) : TSet := fun x y v H Q => ∃ d b es k c l, x = .ref d ∧ y = .ref b ∧ v = .ref l ∧ FOk P w H d es ∧ H b = some (.tup [.int k, .bl c]) ∧ fAt es k c = none ∧ Q (upd H d (fobj P w d (es ++ [(⟨k, c, b, l⟩ : FE)])))
def tFNew (P : Program) (w : World) (ty tv : TE) : TE := fun σ H Q => ∀ p, H p = none → (p == sysModules) = false → ty σ (upd H p (fobj P w p [])) fun y H1 => tv σ H1 fun v H2 => ∃ b k c l, y = .ref b ∧ v = .ref l ∧ H2 p = some (fobj P w p []) ∧ H2 b = some (.tup [.int k, .bl c]) ∧
  Q (.ref p) (upd H2 p (fobj P w p [(⟨k, c, b, l⟩ : FE)]))
section
variable {X : Cx} {o i e : Expr} {td ty tv : TE} {pos pos' : Pos}
theorem pe_fget (hu : X.A.units + 1 < cLine) (ho : PE X o td) (hi : PE X i ty) (hs : PlainIx i) : PE X (.Subscript o i pos) (tFGet X.prog X.w td ty) := by
  refine ⟨fun pins s σ H Q I h => ?_⟩
  refine PyProof.Rows.Subscript_ (binT ho hi I h fun v u s2 x y H2 I2 rx ry q => ?_)
  obtain ⟨d, b, es, k, c, l, rfl, rfl, f, hb, hl, q⟩ := q
  cases (show v = Value.ref d from rx)
  cases (show u = Value.ref b from ry)
  have hD := f.dict I2
  have hg : wpAny (model X.prog X.w) X.A (getItem (.ref d) (.ref b)) (EP X pins σ Q) X.xe s2 := f_getItem (u := .ref b) hu I2 f hb hl fun s' I' => ⟨.ref l, H2, I', rfl, q⟩
  exact PyProof.Rows.tail_any hD.typeIs slot_dict_getitem.lookup hg (hs _ _)
theorem op_fin (hu : X.A.units + 1 < cLine) : OpR X (compareOp .In) (rFIn X.prog X.w false) := by
  intro pins s σ H y x u v Q I ry rx h
  obtain ⟨d, b, es, k, c, rfl, rfl, f, hb, q⟩ := h
  cases (show v = Value.ref d from rx)
  cases (show u = Value.ref b from ry)
  exact f_in hu I f hb fun s' I' => ⟨.bl _, H, I', rfl, q⟩
theorem op_fnotin (hu : X.A.units + 1 < cLine) : OpR X (compareOp .NotIn) (rFIn X.prog X.w true) := by
  intro pins s σ H y x u v Q I ry rx h
  obtain ⟨d, b, es, k, c, rfl, rfl, f, hb, q⟩ := h
  cases (show v = Value.ref d from rx)
  cases (show u = Value.ref b from ry)
  exact f_notIn hu I f hb fun s' I' => ⟨.bl _, H, I', rfl, q⟩
theorem set_f (hu : X.A.units + 1 < cLine) : PSet X (rSetF X.prog X.w) := by
  intro pins s σ H o i v ov iv u Q I r1 r2 r3 h
  obtain ⟨d, b, es, k, c, l, rfl, rfl, rfl, f, hb, hl, q⟩ := h
  cases (show ov = Value.ref d from r1)
  cases (show iv = Value.ref b from r2)
  cases (show u = Value.ref l from r3)
  exact f_setItem hu I f hb hl fun s' I' => ⟨_, I', q⟩
theorem fobj_nil {h : Heap} {P : Program} {w : World} : RawD P w h.objs.size [] (h.push { cls := .type "dict", data := .dict #[] }) := ⟨_, #[], 0, Heap.get?_push_size _ rfl, ⟨rfl, rfl, rfl⟩, rfl, rfl⟩
/-- {k: v} -/
theorem pe_fnew {k v : Expr} (hu : X.A.units + 1 < cLine) (hk : PE X k ty) (hv : PE X v tv) : PE X (.Dict [some k] [v] pos) (tFNew X.prog X.w ty tv) := by
  refine ⟨fun pins s σ H Q I h => ?_⟩
  have hn := I.hok.fresh (Nat.le_refl s.heap.objs.size)
  have hs : (s.heap.objs.size == sysModules) = false := by
    have := I.big
    exact beq_eq_false_iff_ne.mpr (Nat.ne_of_gt this)
  have I1 := I.laid (a := s.heap.objs.size) (o := fobj X.prog X.w s.heap.objs.size []) (h' := s.heap.push { cls := .type "dict", data := .dict #[] }) (t' := s.toks) (fun _ _ q => Heap.get?_push_of_some _ q) (Nat.le_refl _) (fobj_ok fobj_nil)
  rw [arm_eval_Dict, zip_pairTrees [some k] [v] X.env pos rfl rfl, dictDisplay_pairs _ (by simp [pairTrees]) (by simp [pairTrees])]
  refine wpAny_bind (wpAny_standAt (wpAny_bind ?_))
  unfold subDict
  refine wpAny_bind (wpAny_alloc ?_)
  refine wpAny_bind (wpAny_holding ?_)
  rw [if_pos (by simp [pairTrees])]
  have hp : PPs X pos [some k] [v] [(ty, tv)] := pps_cons hk hv pps_nil
  refine wpAny_bind (thn (hp.run pins _ σ _ (fun ps H2 => match ps with
    | [(y, u)] => ∃ b k c l, y = .ref b ∧ u = .ref l ∧ H2 s.heap.objs.size = some (fobj X.prog X.w s.heap.objs.size []) ∧ H2 b = some (.tup [.int k, .bl c]) ∧
      Q (.ref s.heap.objs.size) (upd H2 s.heap.objs.size (fobj X.prog X.w s.heap.objs.size [(⟨k, c, b, l⟩ : FE)]))
    | _ => False) I1 (h _ hn hs)) fun ws s2 ⟨ps, H2, I2, rel, q2⟩ => ?_)
  match ps, rel, q2 with
  | [(y, u)], rel, q2 =>
    obtain ⟨b, k', c, l, rfl, rfl, hd, hb, q⟩ := q2
    cases rel with
    | @cons p1 p2 ps qs r1 r2 =>
      cases r2
      obtain ⟨kv, vv⟩ := p2
      obtain ⟨e1, e2⟩ := r1
      cases (show kv = Value.ref b from e1)
      cases (show vv = Value.ref l from e2)
      refine wpAny_holding ?_
      have f : FOk X.prog X.w H2 s.heap.objs.size [] := ⟨hd, hs, List.nodup_nil, (fun _ z => nomatch z), Nat.zero_le _⟩
      refine wpAny_bind ?_
      rw [List.forIn_cons]
      refine wpAny_bind (wpAny_bind (wpAny_dictSet_heap (show X.A.units < cLine by omega) (key_lf I2 hb) (f.dict I2) (fun h' hd' hs' => wpAny_pure ?_) (Nat.zero_le _)))
      dsimp only
      rw [List.forIn_nil]
      refine wpAny_pure (wpAny_pure (wpAny_pure (wpAny_pure ?_)))
      rw [show ([] : List FE).map FE.x = [] from rfl, show storedH ([] : List (List Leaf × Addr × Value)) (keyL k' c) b (.ref l) = ([(⟨k', c, b, l⟩ : FE)]).map FE.x from storedH_f (es := []) rfl] at hd'
      have ex : ∃ q, h'.get? s.heap.objs.size = some q := let ⟨o, _, _, e, _⟩ := hd'; ⟨o, e⟩
      exact ⟨.ref s.heap.objs.size, _, d_write I2 (by rw [hd]; exact True.intro) hs' ex (fobj_ok (raw_of hd')), rfl, q⟩
end
end BB

/-! the dict as a slot -/
namespace BB
open PySem PySem.Spec L2

section
variable {K : KF} {H0 Hs H Hs' H' : Hp} {σ : L2.St} {G : GEnv} {E : List Addr}
/-- an object that was not there before H1 is a slot's own -/
theorem EnvOk.setX {k : SlotK} {p : Addr} {Hs1 H1 : Hp} (e : EnvOk K H0 Hs1 H1 σ G E) (g : Grow Hs1 H1 Hs H) (i : Nat) (h1 : H1 p = none) (h2 : Hs p = none) (h3 : H p ≠ none) (h4 : k.P K Hs H (.ref p) [p]) :
    EnvOk K H0 Hs H (σ.set i (some (.ref p))) (G.set i (some k)) E := by
  obtain ⟨F, f1, f2, f3, f4⟩ := e.own
  have e' := e.grow g
  have hp : ∀ j, p ∉ F j := fun j z => (f3 p (.inr ⟨j, z⟩)).2.2 h1
  have hE : p ∉ E := fun z => (f3 p (.inl z)).2.2 h1
  obtain ⟨h0', sub', len', _⟩ := e'
  refine ⟨h0', sub', by simp [len'], fun j => if j = i then [p] else F j, fun j j' a => ?_, fun j a => ?_, fun a ha => ?_, fun j k' hk' => ?_⟩
  · dsimp only
    by_cases z : j = i <;> by_cases z' : j' = i
    · intro _ _; rw [z, z']
    · rw [if_pos z, if_neg z']
      intro q1 q2
      rw [List.mem_singleton.mp q1] at q2
      exact absurd q2 (hp j')
    · rw [if_neg z, if_pos z']
      intro q1 q2
      rw [List.mem_singleton.mp q2] at q1
      exact absurd q1 (hp j)
    · rw [if_neg z, if_neg z']
      exact f1 j j' a
  · dsimp only
    by_cases z : j = i
    · rw [if_pos z]
      intro q
      rw [List.mem_singleton.mp q]
      exact hE
    · rw [if_neg z]
      exact f2 j a
  · have old : (a ∈ E ∨ ∃ i, a ∈ F i) → Hs a = none ∧ H0 a = none ∧ H a ≠ none := fun q => by
      obtain ⟨q1, q2, q3⟩ := f3 a q
      refine ⟨?_, q2, ?_⟩
      · cases z : Hs a with
        | none => rfl
        | some o =>
          rcases g.new a o z with y | y
          · rw [q1] at y; cases y
          · exact absurd y q3
      · cases z : H1 a with
        | none => exact absurd z q3
        | some o => rw [g.h a o z]; simp
    rcases ha with ha | ⟨j, ha⟩
    · exact old (.inl ha)
    · dsimp only at ha
      by_cases z : j = i
      · rw [if_pos z, List.mem_singleton] at ha
        subst ha
        exact ⟨h2, e.h0.free h1, h3⟩
      · rw [if_neg z] at ha
        exact old (.inr ⟨j, ha⟩)
  · by_cases z : j = i
    · subst z
      have hj : j < G.length := by
        have := (List.getElem?_eq_some_iff.mp hk').1
        simpa using this
      rw [List.getElem?_set_self hj] at hk'
      cases hk'
      exact ⟨.ref p, List.getElem?_set_self (by rw [len']; exact hj), by dsimp only; rw [if_pos rfl]; exact h4⟩
    · rw [List.getElem?_set_ne (Ne.symm z)] at hk'
      obtain ⟨u, hu, hq⟩ := f4 j k' hk'
      refine ⟨u, by rw [List.getElem?_set_ne (Ne.symm z)]; exact hu, ?_⟩
      dsimp only
      rw [if_neg z]
      refine k'.mono g.s (fun a ha => ?_) hq
      obtain ⟨_, _, q3⟩ := f3 a (.inr ⟨j, ha⟩)
      cases y : H1 a with
      | none => exact absurd y q3
      | some o => exact g.h a o y
theorem EnvOk.own1 {k : SlotK} {i : Nat} (e : EnvOk K H0 Hs H σ G E) (h : G[i]? = some (some k)) : ∃ v F, σ[i]? = some (some v) ∧ k.P K Hs H v F ∧ ∀ a ∈ F, Hs a = none ∧ H0 a = none := by
  obtain ⟨_, _, _, F, _, _, f3, f4⟩ := e
  obtain ⟨v, hv, hp⟩ := f4 i _ h
  exact ⟨v, F i, hv, hp, fun a ha => let ⟨q1, q2, _⟩ := f3 a (.inr ⟨i, ha⟩); ⟨q1, q2⟩⟩
/-- a slot's own object is changed -/
theorem EnvOk.mutX {k k' : SlotK} {i : Nat} {a : Addr} {o : HO} (e : EnvOk K H0 Hs H σ G E) (h : G[i]? = some (some k)) (hF : ∀ F, k.P K Hs H (.ref a) F → F = [a]) (ha : σ[i]? = some (some (.ref a))) (h4 : k'.P K Hs (upd H a o) (.ref a) [a]) :
    EnvOk K H0 Hs (upd H a o) σ (G.set i (some k')) E := by
  obtain ⟨h0, sub, len, F, f1, f2, f3, f4⟩ := e
  obtain ⟨v, hv, hq⟩ := f4 i _ h
  rw [ha] at hv
  cases hv
  have hFi := hF _ hq
  obtain ⟨q1, q2, q3⟩ := f3 a (.inr ⟨i, by rw [hFi]; simp⟩)
  refine ⟨fun b o hb => ?_, fun b o hb => ?_, by simp [len], F, f1, f2, fun b hb => ?_, fun j k'' hk' => ?_⟩
  · have : b ≠ a := fun z => by rw [z, q2] at hb; cases hb
    rw [upd_ne this]
    exact h0 b o hb
  · have : b ≠ a := fun z => by rw [z, q1] at hb; cases hb
    rw [upd_ne this]
    exact sub b o hb
  · obtain ⟨r1, r2, r3⟩ := f3 b hb
    refine ⟨r1, r2, ?_⟩
    by_cases z : b = a
    · rw [z, upd_same]; simp
    · rw [upd_ne z]; exact r3
  · by_cases z : j = i
    · subst z
      have hj : j < G.length := by
        have := (List.getElem?_eq_some_iff.mp hk').1
        simpa using this
      rw [List.getElem?_set_self hj] at hk'
      cases hk'
      exact ⟨.ref a, ha, by rw [hFi]; exact h4⟩
    · rw [List.getElem?_set_ne (Ne.symm z)] at hk'
      obtain ⟨u, hu, hq⟩ := f4 j k'' hk'
      refine ⟨u, hu, k''.mono (Same.refl _) (fun b hb => ?_) hq⟩
      have : b ≠ a := fun y => by
        subst y
        exact z (f1 j i b hb (by rw [hFi]; simp))
      rw [upd_ne this]
end

/-! ### the dict -/
abbrev FM := List ((Nat × Bool) × List Nat)
def FRel (K : KF) (Hs : Hp) (e : FE) (x : (Nat × Bool) × List Nat) : Prop := e.k = (x.1.1 : Int) ∧ e.s = x.1.2 ∧ Hs e.b = some (.tup [.int e.k, .bl e.s]) ∧ Rep.rep K Hs (.ref e.l) x.2
theorem FRel.mono {K : KF} {Hs Hs' : Hp} {e : FE} {x : (Nat × Bool) × List Nat} (s : Same Hs Hs') (h : FRel K Hs e x) : FRel K Hs' e x := ⟨h.1, h.2.1, s _ _ h.2.2.1, Rep.mono s h.2.2.2⟩
structure FMOk (P : Program) (w : World) (K : KF) (Hs H : Hp) (d : Addr) (es : List FE) (m : FM) : Prop where
  ns : (d == sysModules) = false
  at_ : H d = some (fobj P w d es)
  rel : All2 (FRel K Hs) es m
  nd : (m.map (·.1)).Nodup
  sz : m.length ≤ 100000
def dictK (P : Program) (w : World) (m : FM) : SlotK :=
  ⟨fun K Hs H v F => ∃ d es, v = .ref d ∧ F = [d] ∧ FMOk P w K Hs H d es m, fun {K Hs Hs' H H' v F} e f ⟨d, es, h1, h2, h3⟩ => ⟨d, es, h1, h2, h3.ns, by rw [f d (by rw [h2]; simp)]; exact h3.at_, h3.rel.imp fun _ _ r => r.mono e, h3.nd, h3.sz⟩⟩
def mAt (m : FM) (k : Nat) (s : Bool) : Option (List Nat) := (m.find? fun x => decide (x.1 = (k, s))).map (·.2)
theorem nodup_map {α β : Type} {f : α → β} (hf : ∀ a b, f a = f b → a = b) : ∀ {l : List α}, l.Nodup → (l.map f).Nodup
  | [], _ => List.nodup_nil
  | a :: l, h => by
    rw [List.nodup_cons] at h
    rw [List.map_cons, List.nodup_cons]
    refine ⟨fun z => ?_, nodup_map hf h.2⟩
    obtain ⟨b, hb, e⟩ := List.mem_map.mp z
    exact h.1 (hf _ _ e ▸ hb)
theorem keys_rel {K : KF} {Hs : Hp} : ∀ {es : List FE} {m : FM}, All2 (FRel K Hs) es m → (es.map FE.x).map (·.1) = (m.map (·.1)).map fun q => keyL (q.1 : Int) q.2
  | [], [], _ => rfl
  | e :: es, x :: m, h => by
    rw [List.map_cons, List.map_cons, List.map_cons, List.map_cons, keys_rel h.2]
    congr 1
    show keyL e.k e.s = keyL (x.1.1 : Int) x.1.2
    rw [h.1.1, h.1.2.1]
  | [], _ :: _, h => h.elim
  | _ :: _, [], h => h.elim
theorem FMOk.fok {P : Program} {w : World} {K : KF} {Hs H : Hp} {d : Addr} {es : List FE} {m : FM} (f : FMOk P w K Hs H d es m) (s : Same Hs H) : FOk P w H d es := by
  refine ⟨f.at_, f.ns, ?_, fun e he => ?_, by rw [f.rel.len]; exact f.sz⟩
  · rw [keys_rel f.rel]
    refine nodup_map (fun a b h => ?_) f.nd
    obtain ⟨h1, h2⟩ := keyL_inj h
    exact Prod.ext (by omega) h2
  · obtain ⟨i, hi, e1⟩ := List.mem_iff_getElem.mp he
    obtain ⟨x, hx, r⟩ := f.rel.getL (List.getElem?_eq_getElem hi)
    rw [e1] at r
    exact s _ _ r.2.2.1
theorem fAt_rel {K : KF} {Hs : Hp} {k : Nat} {s : Bool} : ∀ {es : List FE} {m : FM}, All2 (FRel K Hs) es m → match mAt m k s with
    | none => fAt es (k : Int) s = none
    | some c => ∃ l, fAt es (k : Int) s = some l ∧ Rep.rep K Hs (.ref l) c
  | [], [], _ => rfl
  | e :: es, x :: m, h => by
    by_cases z : x.1 = (k, s)
    · have a : mAt (x :: m) k s = some x.2 := by
        unfold mAt
        rw [List.find?_cons, decide_eq_true z]
        rfl
      have b : fAt (e :: es) (k : Int) s = some e.l := by
        unfold fAt
        rw [List.find?_cons, decide_eq_true (show e.k = (k : Int) by rw [h.1.1, z]), decide_eq_true (show e.s = s by rw [h.1.2.1, z])]
        rfl
      rw [a]
      exact ⟨e.l, b, h.1.2.2.2⟩
    · have a : mAt (x :: m) k s = mAt m k s := by
        unfold mAt
        rw [List.find?_cons, decide_eq_false z]
      have b : fAt (e :: es) (k : Int) s = fAt es (k : Int) s := by
        unfold fAt
        rw [List.find?_cons]
        have : (decide (e.k = (k : Int)) && decide (e.s = s)) = false := by
          rw [Bool.eq_false_iff]
          intro y
          rw [Bool.and_eq_true, decide_eq_true_eq, decide_eq_true_eq, h.1.1, h.1.2.1] at y
          exact z (Prod.ext (by have := y.1; omega) y.2)
        rw [this]
      rw [a, b]
      exact fAt_rel h.2
  | [], _ :: _, h => h.elim
  | _ :: _, [], h => h.elim

/-- a key, just made -/
def EvKey (K : KF) (G : GEnv) (t : TE) (k : Nat) (s : Bool) : Prop :=
  ∀ H0 Hs H σ E, EnvOk K H0 Hs H σ G E → ∀ Q : VK, (∀ b Hs' H', Grow Hs H Hs' H' → Hs' b = some (.tup [.int (k : Int), .bl s]) → Q (.ref b) H') → t σ H Q
section
variable {P : Program} {w : World} {K : KF} {G : GEnv} {ta tb te ty tv : TE} {D : Post} {k : Nat} {s : Bool} {m : FM} {i : Nat}
theorem ek_tup (ha : EvD K G ta k) (hb : EvD K G tb s) : EvKey K G (tTup (tCons ta (tCons tb tNil))) k s := fun H0 Hs H σ E e Q q =>
  two ha hb e fun u w Hs' H' g r1 r2 => ⟨line2 (by simp), fun p hp => by
    cases (show u = .int (k : Int) from r1)
    cases (show w = .bl s from r2)
    exact q p _ _ (g.trans (Grow.newS g.sub hp)) upd_same⟩
theorem dict_get {H0 Hs H : Hp} {σ : L2.St} {E : List Addr} (e : EnvOk K H0 Hs H σ G E) (hi : G[i]? = some (some (dictK P w m))) : ∃ d es, σ[i]? = some (some (.ref d)) ∧ FMOk P w K Hs H d es m ∧ Hs d = none ∧ H0 d = none := by
  obtain ⟨v, F, hv, ⟨d, es, rfl, hF, f⟩, hn⟩ := e.own1 hi
  obtain ⟨n1, n2⟩ := hn d (by rw [hF]; simp)
  exact ⟨d, es, hv, f, n1, n2⟩
theorem evd_fget {c : List Nat} (hi : G[i]? = some (some (dictK P w m))) (hk : EvKey K G ty k s) (hm : mAt m k s = some c) : EvD K G (tFGet P w (tVar i) ty) c := fun H0 Hs H σ E e Q q => by
  obtain ⟨d, _, hd, _, _, _⟩ := dict_get e hi
  refine ⟨.ref d, hd, hk H0 Hs H σ E e _ fun b Hs' H' g hb => ?_⟩
  have e' := e.grow g
  obtain ⟨d', es, hd', f, _, _⟩ := dict_get e' hi
  rw [hd] at hd'
  cases hd'
  have r := fAt_rel (k := k) (s := s) f.rel
  rw [hm] at r
  obtain ⟨l, hl, rl⟩ := r
  exact ⟨d, b, es, k, s, l, rfl, rfl, f.fok g.sub, g.sub _ _ hb, hl, q _ Hs' H' g rl⟩
theorem fAt_some {Hs : Hp} {es : List FE} (r : All2 (FRel K Hs) es m) : (fAt es (k : Int) s).isSome = (mAt m k s).isSome := by
  have r := fAt_rel (k := k) (s := s) r
  cases z : mAt m k s with
  | none => rw [z] at r; rw [show fAt es (k : Int) s = none from r]; rfl
  | some c =>
    rw [z] at r
    obtain ⟨l, hl, _⟩ := r
    rw [hl]
    rfl
theorem evd_fin (hi : G[i]? = some (some (dictK P w m))) (hk : EvKey K G ty k s) : EvD K G (tOp (rFIn P w false) ty (tVar i)) (mAt m k s).isSome := fun H0 Hs H σ E e Q q =>
  hk H0 Hs H σ E e _ fun b Hs' H' g hb => by
    have e' := e.grow g
    obtain ⟨d, es, hd, f, _, _⟩ := dict_get e' hi
    exact ⟨.ref d, hd, d, b, es, k, s, rfl, rfl, f.fok g.sub, g.sub _ _ hb, q _ Hs' H' g (by show V.bl _ = V.bl _; rw [if_neg Bool.false_ne_true, fAt_some f.rel])⟩
theorem evd_fnotin (hi : G[i]? = some (some (dictK P w m))) (hk : EvKey K G ty k s) : EvD K G (tOp (rFIn P w true) ty (tVar i)) (!(mAt m k s).isSome) := fun H0 Hs H σ E e Q q =>
  hk H0 Hs H σ E e _ fun b Hs' H' g hb => by
    have e' := e.grow g
    obtain ⟨d, es, hd, f, _, _⟩ := dict_get e' hi
    exact ⟨.ref d, hd, d, b, es, k, s, rfl, rfl, f.fok g.sub, g.sub _ _ hb, q _ Hs' H' g (by show V.bl _ = V.bl _; rw [if_pos rfl, fAt_some f.rel])⟩
theorem dict_only {Hs H : Hp} {a : Addr} {F : List Addr} (h : (dictK P w m).P K Hs H (.ref a) F) : F = [a] := by
  obtain ⟨d, es, h1, h2, _⟩ := h
  cases h1
  exact h2
theorem mAt_none (h : mAt m k s = none) : (k, s) ∉ m.map (·.1) := by
  intro z
  obtain ⟨x, hx, e⟩ := List.mem_map.mp z
  unfold mAt at h
  rw [Option.map_eq_none_iff, List.find?_eq_none] at h
  exact h x hx (decide_eq_true e)
theorem st_fput {c : List Nat} (hi : G[i]? = some (some (dictK P w m))) (hv : EvD K G te c) (hk : EvKey K G ty k s) (hm : mAt m k s = none) (hl : m.length < 100000) (q : D.nx (G.set i (some (dictK P w (m ++ [((k, s), c)]))))) :
    StD K G (tAsg te (gSub (tVar i) ty (rSetF P w))) D := fun Hs0 H0 Hs H σ E e g0 De p =>
  hv H0 Hs H σ E e _ fun v Hs1 H1 g1 r1 => by
    have e1 := e.grow g1
    obtain ⟨d, _, hd, _, _, _⟩ := dict_get e1 hi
    refine ⟨.ref d, hd, hk H0 Hs1 H1 σ E e1 _ fun b Hs2 H2 g2 hb => ?_⟩
    have e2 := e1.grow g2
    obtain ⟨d', es, hd', f, n1, n2⟩ := dict_get e2 hi
    rw [hd] at hd'
    cases hd'
    have r := fAt_rel (k := k) (s := s) f.rel
    rw [hm] at r
    have rv := Rep.mono g2.s r1
    obtain ⟨l, vs, rfl, hl1, hl2⟩ := rv
    have hne : l ≠ d := fun z => by rw [z, n1] at hl1; cases hl1
    refine ⟨d, b, es, k, s, l, rfl, rfl, rfl, f.fok g2.sub, g2.sub _ _ hb, r, p.nx _ _ Hs2 _ q (e2.mutX hi (fun F h => dict_only h) hd ?_) (grow_mut ((g0.trans g1).trans g2) n1 n2)⟩
    refine ⟨d, _, rfl, rfl, f.ns, upd_same, f.rel.app ⟨⟨rfl, rfl, hb, l, vs, rfl, hl1, hl2⟩, trivial⟩, ?_, by rw [List.length_append]; exact hl⟩
    rw [List.map_append, List.nodup_append]
    refine ⟨f.nd, by simp, fun a ha b hb z => ?_⟩
    rw [List.map_cons, List.map_nil, List.mem_singleton] at hb
    subst hb
    subst z
    exact mAt_none hm ha
theorem st_fnew {c : List Nat} (hk : EvKey K G ty k s) (hv : EvD K G tv c) (q : D.nx (G.set i (some (dictK P w [((k, s), c)])))) : StD K G (tAsg (tFNew P w ty tv) (gName i)) D := fun Hs0 H0 Hs H σ E e g0 De p =>
  fun a ha hs => by
    have ga := Grow.newO (o := fobj P w a []) e.sub ha
    have ea := e.grow ga
    refine hk H0 Hs _ σ E ea _ fun b Hs1 H1 g1 hb => ?_
    have e1 := ea.grow g1
    refine hv H0 Hs1 H1 σ E e1 _ fun v Hs2 H2 g2 r2 => ?_
    have gg := (ga.trans g1).trans g2
    obtain ⟨l, vs, rfl, hl1, hl2⟩ := r2
    have hd : H2 a = some (fobj P w a []) := g2.h _ _ (g1.h _ _ upd_same)
    have hn : Hs2 a = none := by
      cases z : Hs2 a with
      | none => rfl
      | some o =>
        have g12 := g1.trans g2
        rcases g12.new a o z with y | y
        · rw [e.sub.free ha] at y; cases y
        · rw [upd_same] at y; cases y
    refine ⟨b, k, s, l, rfl, rfl, hd, g2.sub _ _ (g2.s _ _ hb), ?_⟩
    have g3 : Grow Hs H Hs2 (upd H2 a (fobj P w a [(⟨k, s, b, l⟩ : FE)])) := ⟨gg.s, fun x o hx => by
      rw [upd_ne (ne_of_none hx ha)]
      exact gg.h x o hx, fun x o hx => by
      rw [upd_ne (ne_of_none hx hn)]
      exact gg.sub x o hx, gg.new⟩
    refine p.nx _ _ Hs2 _ q (e.setX g3 i ha hn (by rw [upd_same]; simp) ?_) (g0.trans g3)
    exact ⟨a, _, rfl, rfl, hs, upd_same, ⟨⟨rfl, rfl, g2.s _ _ hb, l, vs, rfl, hl1, hl2⟩, trivial⟩, by simp, by simp⟩
/-- a new dict, nobody else's -/
def RetF (P : Program) (w : World) (R : FM → Prop) : RetK := fun K H0 Hs' H' v => ∃ d es m, v = .ref d ∧ H0 d = none ∧ Hs' d = none ∧ FMOk P w K Hs' H' d es m ∧ R m
theorem st_retF {R : FM → Prop} (hi : G[i]? = some (some (dictK P w m))) (hD : D.rt = RetF P w R) (hR : R m) : StD K G (tRet (tVar i)) D := fun Hs0 H0 Hs H σ E e g0 De p => by
  obtain ⟨d, es, hd, f, n1, n2⟩ := dict_get e hi
  exact ⟨.ref d, hd, p.rt _ Hs H g0 (by rw [hD]; exact ⟨d, es, m, rfl, n2, n1, f, hR⟩)⟩
theorem st_callF {A : Type} {args : A → List Dyn} {pre : A → Prop} {R : A → FM → Prop} {t : TA} {X : XK} (a : A) (h : EvA K G t (args a)) (hp : pre a) (q : ∀ m, R a m → D.nx (G.set i (some (dictK P w m)))) :
    StD K G (tAsg (tCall (spR args pre (fun a => RetF P w (R a)) K) [] X t) (gName i)) D := fun Hs0 H0 Hs H σ E e g0 De p =>
  h H0 Hs H σ E e _ fun vs Hs1 H1 g1 r1 => ⟨Hs1, a, g1.sub, by rw [List.append_nil]; exact r1, hp, fun v Hs2 H2 g2 ⟨d, es, m, hv, n1, n2, f, hR⟩ => by
    subst hv
    exact p.nx _ _ Hs2 H2 (q m hR) ((e.grow g1).setX g2 i n1 n2 (by rw [f.at_]; simp) ⟨d, es, rfl, rfl, f⟩) ((g0.trans g1).trans g2)⟩
end
end BB

/-! steps, chains, what is found -/
namespace BB

abbrev Tab := List (List (Option Bool))
def tg (tab : Tab) (j k : Nat) : Option Bool := (tab.getD j default).getD k default
structure Sq (n : Nat) (tab : Tab) : Prop where
  len : tab.length = n
  row : ∀ r ∈ tab, r.length = n
theorem Sq.at {n : Nat} {tab : Tab} {j : Nat} (h : Sq n tab) (hj : j < n) : (tab.getD j default).length = n := by
  rw [List.getD_eq_getElem?_getD, List.getElem?_eq_getElem (by rw [h.len]; exact hj)]
  exact h.row _ (List.getElem_mem _)
/-- i leads to k (strictly, if so is told) -/
inductive Reach (tab : Tab) (n i : Nat) : Nat → Bool → Prop
  | refl : Reach tab n i i false
  | step {j k : Nat} {s o : Bool} : Reach tab n i j s → k < n → tg tab j k = some o → Reach tab n i k (s || o)
/-- a chain from i to k -/
inductive CF (tab : Tab) (n i : Nat) : List Nat → Nat → Bool → Prop
  | one : CF tab n i [i] i false
  | snoc {c : List Nat} {j k : Nat} {s o : Bool} : CF tab n i c j s → k < n → tg tab j k = some o → CF tab n i (c ++ [k]) k (s || o)
theorem CF.reach {tab : Tab} {n i : Nat} {c : List Nat} {k : Nat} {s : Bool} (h : CF tab n i c k s) : Reach tab n i k s := by
  induction h with
  | one => exact .refl
  | snoc _ h1 h2 ih => exact .step ih h1 h2

theorem pigeon : ∀ (N : Nat) (l : List Nat), l.Nodup → (∀ x ∈ l, x < N) → l.length ≤ N
  | 0, [], _, _ => Nat.le_refl _
  | 0, x :: _, _, h => absurd (h x List.mem_cons_self) (Nat.not_lt_zero _)
  | N + 1, l, hn, h => by
    have h1 : (l.filter fun x => decide (x ≠ N)).length ≤ N := pigeon N _ (hn.filter _) fun x hx => by
      obtain ⟨a, b⟩ := List.mem_filter.mp hx
      have := h x a
      have := of_decide_eq_true b
      omega
    have h2 : ∀ l : List Nat, l.Nodup → l.length ≤ (l.filter fun x => decide (x ≠ N)).length + 1 := by
      intro l
      induction l with
      | nil => intro _; simp
      | cons a l ih =>
        intro hn
        rw [List.nodup_cons] at hn
        by_cases e : a = N
        · subst e
          have : (a :: l).filter (fun x => decide (x ≠ a)) = l := by
            rw [List.filter_cons, if_neg (by simp)]
            rw [List.filter_eq_self]
            intro x hx
            exact decide_eq_true fun z => hn.1 (z ▸ hx)
          rw [this]
          simp
        · rw [List.filter_cons, if_pos (decide_eq_true e)]
          have := ih hn.2
          simp only [List.length_cons]
          omega
    have := h2 l hn
    omega
theorem states_le {n : Nat} {q : List (Nat × Bool)} (hn : q.Nodup) (h : ∀ x ∈ q, x.1 < n) : q.length ≤ 2 * n := by
  have e : (q.map fun x => 2 * x.1 + (if x.2 then 1 else 0)).length ≤ 2 * n := by
    refine pigeon _ _ (nodup_map (fun a b e => ?_) hn) fun x hx => ?_
    · obtain ⟨a1, a2⟩ := a
      obtain ⟨b1, b2⟩ := b
      cases a2 <;> cases b2 <;> simp at e ⊢ <;> omega
    · obtain ⟨y, hy, e⟩ := List.mem_map.mp hx
      have := h y hy
      rw [← e]
      split <;> omega
  simpa using e
theorem mAt_mem {m : FM} {k : Nat} {s : Bool} {c : List Nat} (h : mAt m k s = some c) : ((k, s), c) ∈ m := by
  unfold mAt at h
  obtain ⟨x, hx, e⟩ := Option.map_eq_some_iff.mp h
  have h1 := List.mem_of_find?_eq_some hx
  have h3 := List.find?_some hx
  have h2 : x.1 = (k, s) := of_decide_eq_true h3
  obtain ⟨a, b⟩ := x
  simp only at h2 e
  subst h2
  subst e
  exact h1
theorem mAt_iff {m : FM} {k : Nat} {s : Bool} : (mAt m k s).isSome = true ↔ (k, s) ∈ m.map (·.1) := by
  constructor
  · intro h
    obtain ⟨c, hc⟩ := Option.isSome_iff_exists.mp h
    exact List.mem_map.mpr ⟨_, mAt_mem hc, rfl⟩
  · intro h
    cases z : mAt m k s with
    | some c => rfl
    | none => exact absurd h (mAt_none z)
/-- what holds between two turns of the search -/
structure FI (tab : Tab) (n i : Nat) (m : FM) (q : List (Nat × Bool)) (at' : Nat) : Prop where
  keys : m.map (·.1) = q
  nd : q.Nodup
  lt : ∀ x ∈ q, x.1 < n
  first : (i, false) ∈ q
  cf : ∀ x ∈ m, CF tab n i x.2 x.1.1 x.1.2
  cl : ∀ x ∈ m, x.2.length ≤ m.length
  clo : ∀ (a j : Nat) (s : Bool), a < at' → q[a]? = some (j, s) → ∀ k, k < n → ∀ o, tg tab j k = some o → (k, s || o) ∈ q
  le : at' ≤ q.length
theorem FI.len {tab : Tab} {n i : Nat} {m : FM} {q : List (Nat × Bool)} {a : Nat} (h : FI tab n i m q a) : q.length ≤ 2 * n := states_le h.nd h.lt
theorem FI.start {tab : Tab} {n i : Nat} (hi : i < n) : FI tab n i [((i, false), [i])] [(i, false)] 0 where
  keys := rfl
  nd := by simp
  lt := fun x hx => by rw [List.mem_singleton.mp hx]; exact hi
  first := by simp
  cf := fun x hx => by rw [List.mem_singleton.mp hx]; exact .one
  cl := fun x hx => by rw [List.mem_singleton.mp hx]; simp
  clo := fun _ _ _ h => absurd h (Nat.not_lt_zero _)
  le := Nat.zero_le _
theorem FI.add {tab : Tab} {n i : Nat} {m : FM} {q : List (Nat × Bool)} {a j k : Nat} {s o : Bool} {c : List Nat} (h : FI tab n i m q a) (hc : mAt m j s = some c) (hk : k < n) (ho : tg tab j k = some o) (hm : mAt m k (s || o) = none) :
    FI tab n i (m ++ [((k, s || o), c ++ [k])]) (q ++ [(k, s || o)]) a where
  keys := by rw [List.map_append, h.keys]; rfl
  nd := by
    rw [List.nodup_append]
    refine ⟨h.nd, by simp, fun x hx y hy e => ?_⟩
    rw [List.mem_singleton.mp hy] at e
    subst e
    exact mAt_none hm (by rw [h.keys]; exact hx)
  lt := fun x hx => by
    rcases List.mem_append.mp hx with z | z
    · exact h.lt x z
    · rw [List.mem_singleton.mp z]; exact hk
  first := List.mem_append_left _ h.first
  cf := fun x hx => by
    rcases List.mem_append.mp hx with z | z
    · exact h.cf x z
    · rw [List.mem_singleton.mp z]
      exact .snoc (h.cf _ (mAt_mem hc)) hk ho
  cl := fun x hx => by
    rw [List.length_append]
    rcases List.mem_append.mp hx with z | z
    · exact Nat.le_trans (h.cl x z) (Nat.le_add_right _ _)
    · rw [List.mem_singleton.mp z]
      have := h.cl _ (mAt_mem hc)
      simp at this ⊢
      exact this
  clo := fun b j' s' hb hj k' hk' o' ho' => by
    have hb' : b < q.length := Nat.lt_of_lt_of_le hb h.le
    rw [List.getElem?_append_left hb'] at hj
    exact List.mem_append_left _ (h.clo b j' s' hb hj k' hk' o' ho')
  le := Nat.le_trans h.le (by rw [List.length_append]; exact Nat.le_add_right _ _)
theorem FI.next {tab : Tab} {n i : Nat} {m : FM} {q : List (Nat × Bool)} {a j : Nat} {s : Bool} (h : FI tab n i m q a) (hj : q[a]? = some (j, s)) (hc : ∀ k, k < n → ∀ o, tg tab j k = some o → (k, s || o) ∈ q) : FI tab n i m q (a + 1) :=
  ⟨h.keys, h.nd, h.lt, h.first, h.cf, h.cl, fun b j' s' hb hb' k hk o ho => by
    by_cases e : b = a
    · subst e
      rw [hj] at hb'
      cases hb'
      exact hc k hk o ho
    · exact h.clo b j' s' (by omega) hb' k hk o ho, (List.getElem?_eq_some_iff.mp hj).1⟩
/-- what the search hands back -/
structure FR (tab : Tab) (n i : Nat) (m : FM) : Prop where
  iff : ∀ k s, (mAt m k s).isSome = true ↔ Reach tab n i k s
  cf : ∀ k s c, mAt m k s = some c → CF tab n i c k s ∧ c.length ≤ 2 * n
theorem FI.fin {tab : Tab} {n i : Nat} {m : FM} {q : List (Nat × Bool)} (h : FI tab n i m q q.length) : FR tab n i m where
  iff := fun k s => by
    rw [mAt_iff, h.keys]
    constructor
    · intro hx
      rw [← h.keys] at hx
      obtain ⟨x, hx, e⟩ := List.mem_map.mp hx
      have := (h.cf x hx).reach
      rw [show x.1 = (k, s) from e] at this
      exact this
    · intro hr
      induction hr with
      | refl => exact h.first
      | @step j k s o hr hk ho ih =>
        obtain ⟨a, ha, e⟩ := List.mem_iff_getElem.mp ih
        exact h.clo a j s ha (by rw [List.getElem?_eq_getElem ha, e]) k hk o ho
  cf := fun k s c hc => by
    have hm := mAt_mem hc
    refine ⟨h.cf _ hm, Nat.le_trans (h.cl _ hm) ?_⟩
    have e : m.length = q.length := by rw [← h.keys, List.length_map]
    rw [e]
    exact h.len
end BB

/-! the search -/
namespace BB
open PySem PySem.Spec L2
variable {P : Program} {w : World} {K : KF} {mg : Str → Option Value} {base : Heap} {aZ aO : Addr}

abbrev s_find_in : Stmt := topS 25
abbrev N_find_in : List Str := ["table", "i", "found", "queue", "at", "j", "strict", "chain", "k", "one"]
theorem sc_find_in : FnScope N_find_in ["table", "i"] (defScope s_find_in) := ⟨rfl, rfl, rfl, by decide +kernel, rfl, by decide +kernel, by decide +kernel⟩

abbrev s_leads : Stmt := topS 26
abbrev N_leads : List Str := ["data", "table", "count", "result", "i", "found", "row", "j"]
theorem sc_leads : FnScope N_leads ["data"] (defScope s_leads) := ⟨rfl, rfl, rfl, by decide +kernel, rfl, by decide +kernel, by decide +kernel⟩

abbrev s_find_chain : Stmt := topS 27
abbrev N_find_chain : List Str := ["data", "i", "j", "found"]
theorem sc_find_chain : FnScope N_find_chain ["data", "i", "j"] (defScope s_find_chain) := ⟨rfl, rfl, rfl, by decide +kernel, rfl, by decide +kernel, by decide +kernel⟩

abbrev sp_find_in (P : Program) (w : World) := spR (A := Tab × Nat) (fun a => [dyn a.1, dyn a.2]) (fun a => Sq a.1.length a.1 ∧ a.2 < a.1.length ∧ a.1.length ≤ 8) (fun a => RetF P w (FR a.1 a.1.length a.2))
theorem ok_find_in {f : Addr} {fd : FuncData} (F : Fun K "find_in" "find_in" s_find_in f fd) (B : Bi P mg base) : FnOk P w K mg base CX0 40 f fd ["table", "i"] (sp_find_in P w K) :=
  fn_st F sc_find_in (fun _ => rfl) fun cdv A' outer s H E hr => ⟨_,
(pss_cons (ps_set (i := 2) sc_find_in.nd rfl (.inl rfl) (pe_fnew (hu_of hr) (pe_tup (pa_cons (pv 1) (pa_cons pe_bl pa_nil))) (pe_lst (pa_cons (pv 1) pa_nil))))
(pss_cons (ps_set (i := 3) sc_find_in.nd rfl (.inl rfl) (pe_lst (pa_cons (pe_tup (pa_cons (pv 1) (pa_cons pe_bl pa_nil))) pa_nil)))
(pss_cons (ps_set (i := 4) sc_find_in.nd rfl (.inl rfl) pe_int)
(pss_cons (ps_while PassesOwn.never (pt_cmpR op_lt (pv 4) (pe_callB call_len_seq (by rfl) B.len PySem.boot_len (pa_cons (pv 3) pa_nil)) (nomark _))
(pss_cons (ps_asg (pe_ix ix_list (pv 3) (pv 4) (fun _ _ => rfl)) (pg_tup rfl (pgs_cons (pg_name (i := 5) sc_find_in.nd rfl (.inl rfl)) (pgs_cons (pg_name (i := 6) sc_find_in.nd rfl (.inl rfl)) pgs_nil))))
(pss_cons (ps_set (i := 7) sc_find_in.nd rfl (.inl rfl) (pe_fget (hu_of hr) (pv 2) (pe_tup (pa_cons (pv 5) (pa_cons (pv 6) pa_nil))) (fun _ _ => rfl)))
(pss_cons (ps_for PassesOwn.never rfl (pi_range1 (by rfl) B.range (pa_cons (pe_callB call_len_seq (by rfl) B.len PySem.boot_len (pa_cons (pv 0) pa_nil)) pa_nil)) (pg_name (i := 8) sc_find_in.nd rfl (.inl rfl))
(pss_cons (ps_set (i := 9) sc_find_in.nd rfl (.inl rfl) (pe_ix ix_list (pe_ix ix_list (pv 0) (pv 5) (fun _ _ => rfl)) (pv 8) (fun _ _ => rfl)))
(pss_one (ps_if (PW.pt (pw_and (pt_cmpR op_notN (pv 9) pe_non (nomark _)) (pw_and1 (pt_cmpR (op_fnotin (hu_of hr)) (pe_tup (pa_cons (pv 8) (pa_cons (pe_or (pv 6) (pe_one (pv 9))) pa_nil))) (pv 2) (by rfl)))))
(pss_cons (ps_asg (pe_op op_cat (pv 7) (pe_lst (pa_cons (pv 8) pa_nil))) (pg_sub (pv 2) (pe_tup (pa_cons (pv 8) (pa_cons (pe_or (pv 6) (pe_one (pv 9))) pa_nil))) (set_f (hu_of hr))))
(pss_one (ps_expr (pe_bm PySem.F.plainAttrs_list PySem.F.slot_list_append PySem.F.type_list_append mt_append (pv 3) (pa_cons (pe_tup (pa_cons (pv 8) (pa_cons (pe_or (pv 6) (pe_one (pv 9))) pa_nil))) pa_nil)))))
pss_nil))))
(pss_one (ps_set (i := 4) sc_find_in.nd rfl (.inl rfl) (pe_op op_add (pv 4) pe_int)))))))
(pss_one (ps_ret (pv 2))))))), 
fun ⟨tab, i⟩ hp => by
    show StD K [pureS tab, pureS i, none, none, none, none, none, none, none, none] _ _
    obtain ⟨hq, hi, hn⟩ : Sq tab.length tab ∧ i < tab.length ∧ tab.length ≤ 8 := hp
    refine st_seq (st_fnew (ek_tup (evd_var rfl) evd_bl) (EvN.d (evn_lst (evi_cons (evd_var rfl) evi_nil) (by simp))) ?_)
    refine st_seq (st_own (evn_lst (evi_cons (evd_tup2 (evd_var rfl) evd_bl) evi_nil) (by simp)) ?_)
    refine st_seq (st_set (evd_nat (i := 0)) ?_)
    refine st_seq (st_while (fun mm G' => ∃ m q a s5 s6 s7 s8 s9, mm = 20 - a ∧ G' = [pureS tab, pureS i, some (dictK P w m), ownS q, pureS a, s5, s6, s7, s8, s9] ∧ FI tab tab.length i m q a) 20 ⟨_, _, 0, _, _, _, _, _, rfl, rfl, FI.start hi⟩ ?_)
    rintro mm G' ⟨m, q, a, s5, s6, s7, s8, s9, rfl, rfl, h⟩
    have hql := h.len
    refine ⟨_, evb_test (evd_ltN (evd_var rfl) (len_of (evl_own rfl))), fun hlt => ?_, fun hlt => ?_⟩
    · have hlt : a < q.length := of_decide_eq_true hlt
      obtain ⟨⟨j, s⟩, hjs⟩ : ∃ x, q[a]? = some x := ⟨_, List.getElem?_eq_getElem hlt⟩
      have e0 : q.getD a default = (j, s) := by rw [List.getD_eq_getElem?_getD, hjs]; rfl
      have hj : j < tab.length := h.lt (j, s) (List.mem_of_getElem? hjs)
      obtain ⟨c, hc⟩ : ∃ c, mAt m j s = some c := Option.isSome_iff_exists.mp (mAt_iff.mpr (by rw [h.keys]; exact List.mem_of_getElem? hjs))
      refine st_seq (st_asg (x := (j, s)) (EvD.to (evd_ix (evl_own rfl) (evd_var rfl) hlt) e0) (gd_tup2 gd_name gd_name) ?_)
      refine st_seq (st_set (evd_fget rfl (ek_tup (evd_var rfl) (evd_var rfl)) hc) ?_)
      refine st_seq (st_forR (n := tab.length) (fun k G' => ∃ m' q' s8 s9, G' = [pureS tab, pureS i, some (dictK P w m'), ownS q', pureS a, pureS j, pureS s, pureS c, s8, s9] ∧ FI tab tab.length i m' q' a ∧ q'[a]? = some (j, s) ∧ mAt m' j s = some c ∧
        ∀ k', k' < k → ∀ o, tg tab j k' = some o → (k', s || o) ∈ q') (len_of (EvD.l (evd_var rfl))) (by omega) ⟨m, q, _, _, rfl, h, hjs, hc, fun k' hk' => absurd hk' (Nat.not_lt_zero _)⟩ (fun k G' hk hI => ?_) fun G' hI => ?_)
      · obtain ⟨m', q', s8, s9, rfl, h', hjs', hc', hcl⟩ := hI
        have hq8 := h'.len
        have hrow : k < (tab.getD j default).length := by rw [hq.at hj]; exact hk
        have hml : m'.length = q'.length := by rw [← h'.keys, List.length_map]
        refine st_seq (st_set (evd_ix (EvD.l (evd_ix (EvD.l (evd_var rfl)) (evd_var rfl) hj)) (evd_var rfl) hrow) ?_)
        show StD K [pureS tab, pureS i, some (dictK P w m'), ownS q', pureS a, pureS j, pureS s, pureS c, pureS k, pureS (tg tab j k)] _ _
        cases ho : tg tab j k with
        | none =>
          refine st_if (b := false) (evb_and (a := false) (b := false) (evb_test (evd_notN (evd_var (x := (none : Option Bool)) rfl))) fun z => absurd z Bool.false_ne_true) (fun z => absurd z Bool.false_ne_true) (fun _ => st_next ⟨m', q', _, _, rfl, h', hjs', hc', fun k' hk' o ho' => ?_⟩)
          by_cases e : k' = k
          · subst e; rw [ho] at ho'; cases ho'
          · exact hcl k' (by omega) o ho'
        | some o =>
          refine st_if (evb_and (evb_test (evd_notN (evd_var rfl))) fun z => evb_test (evd_fnotin rfl (ek_tup (evd_var rfl) (evd_orV (evd_var rfl) fun z => EvD.val (evd_var (x := some o) rfl))))) (fun hne => ?_) (fun hne => st_next ⟨m', q', _, _, rfl, h', hjs', hc', fun k' hk' o' ho' => ?_⟩)
          · have hm : mAt m' k (s || o) = none := by simpa using hne
            refine st_seq (st_fput rfl (EvN.d (evn_cat (EvD.l (evd_var rfl)) (EvN.l (evn_lst (evi_cons (evd_var rfl) evi_nil) (by simp))) ?_)) (ek_tup (evd_var rfl) (evd_orV (evd_var rfl) fun z => EvD.val (evd_var (x := some o) rfl))) hm (by omega) ?_)
            · have := h'.cl _ (mAt_mem hc')
              simp at this ⊢
              omega
            · refine st_app rfl (evd_tup2 (evd_var rfl) (evd_orV (evd_var rfl) fun z => EvD.val (evd_var (x := some o) rfl))) (by omega) ⟨_, _, _, _, rfl, h'.add hc' hk ho hm, ?_, ?_, fun k' hk' o' ho' => ?_⟩
              · rw [List.getElem?_append_left (List.getElem?_eq_some_iff.mp hjs').1]
                exact hjs'
              · show mAt (m' ++ _) j s = some c
                unfold mAt at hc' ⊢
                rw [List.find?_append]
                obtain ⟨x, hx, e⟩ := Option.map_eq_some_iff.mp hc'
                rw [hx]
                simp [e]
              · by_cases e : k' = k
                · subst e
                  rw [ho] at ho'
                  cases ho'
                  exact List.mem_append_right _ (by simp)
                · exact List.mem_append_left _ (hcl k' (by omega) o' ho')
          · by_cases e : k' = k
            · subst e
              rw [ho] at ho'
              cases ho'
              have hm : (mAt m' k' (s || o)).isSome = true := by simpa using hne
              rw [mAt_iff, h'.keys] at hm
              exact hm
            · exact hcl k' (by omega) o' ho'
      · obtain ⟨m', q', s8, s9, rfl, h', hjs', hc', hcl⟩ := hI
        have hq8 := h'.len
        have ha : a < q'.length := (List.getElem?_eq_some_iff.mp hjs').1
        exact st_set (x := a + 1) (EvD.nat (evd_add (EvD.int (evd_var (x := a) rfl)) evd_int) rfl) ⟨20 - (a + 1), by omega, m', q', a + 1, _, _, _, _, _, rfl, rfl, h'.next hjs' hcl⟩
    · have hlt : ¬ a < q.length := of_decide_eq_false hlt
      have e : a = q.length := Nat.le_antisymm h.le (by omega)
      subst e
      exact st_retF rfl rfl h.fin
⟩
end BB

/-! values of which a property is told; lists lent to a callee -/
namespace BB
open PySem PySem.Spec L2

/-- the value is some x of which R holds -/
def EvP {α : Type} [Rep α] (K : KF) (G : GEnv) (t : TE) (R : α → Prop) : Prop :=
  ∀ H0 Hs H σ E, EnvOk K H0 Hs H σ G E → ∀ Q : VK, (∀ v x Hs' H', Grow Hs H Hs' H' → R x → Rep.rep K Hs' v x → Q v H') → t σ H Q
def RetP {α : Type} [Rep α] (R : α → Prop) : RetK := fun K _ Hs' _ v => ∃ x, Rep.rep K Hs' v x ∧ R x
section
variable {α β γ : Type} [Rep α] [Rep β] [Rep γ] {K : KF} {G : GEnv} {ta tb te : TE} {D : Post} {X : XK}
theorem evp_call {A : Type} {args : A → List Dyn} {pre : A → Prop} {R : A → β → Prop} {ta : TA} (a : A) (h : EvA K G ta (args a)) (hp : pre a) : EvP K G (tCall (spR args pre (fun a => RetP (R a)) K) [] X ta) (R a) := fun H0 Hs H σ E e Q q =>
  h H0 Hs H σ E e _ fun vs Hs1 H1 g1 r1 => ⟨Hs1, a, g1.sub, by rw [List.append_nil]; exact r1, hp, fun v Hs2 H2 g2 ⟨x, rx, hR⟩ => q v x Hs2 H2 (g1.trans g2) hR rx⟩
theorem EvD.p {x : α} {R : α → Prop} (h : EvD K G te x) (hR : R x) : EvP K G te R := fun H0 Hs H σ E e Q q => h H0 Hs H σ E e Q fun v Hs' H' g r => q v x Hs' H' g hR r
theorem EvP.imp {R S : α → Prop} (h : EvP K G te R) (f : ∀ x, R x → S x) : EvP K G te S := fun H0 Hs H σ E e Q q => h H0 Hs H σ E e Q fun v x Hs' H' g hR r => q v x Hs' H' g (f x hR) r
theorem evp_snd {x : α} {R : β → Prop} (ha : EvD K G ta x) (hb : EvP K G tb R) : EvP K G (tTup (tCons ta (tCons tb tNil))) (fun p : α × β => p.1 = x ∧ R p.2) := fun H0 Hs H σ E e Q q =>
  ha H0 Hs H σ E e _ fun u Hs1 H1 g1 r1 => hb H0 Hs1 H1 σ E (e.grow g1) _ fun w y Hs2 H2 g2 hR r2 => ⟨line2 (by simp), fun p hp => q (.ref p) (x, y) _ _ ((g1.trans g2).trans (Grow.newS g2.sub hp)) ⟨rfl, hR⟩
    ⟨p, u, w, rfl, .inl (.inl upd_same), Rep.mono (g2.s.trans (same_new (g2.sub.free hp))) r1, Rep.mono (same_new (g2.sub.free hp)) r2⟩⟩
theorem st_setP {R : α → Prop} {i : Nat} (h : EvP K G te R) (k : ∀ x, R x → D.nx (G.set i (pureS x))) : StD K G (tAsg te (gName i)) D := fun Hs0 H0 Hs H σ E e g0 De p =>
  h H0 Hs H σ E e _ fun v x Hs1 H1 g1 hR r1 => p.nx _ _ Hs1 H1 (k x hR) ((e.grow g1).setP i r1) (g0.trans g1)
theorem st_retP {R S : α → Prop} (h : EvP K G te R) (hD : D.rt = RetP S) (f : ∀ x, R x → S x) : StD K G (tRet te) D := fun Hs0 H0 Hs H σ E e g0 De p =>
  h H0 Hs H σ E e _ fun v x Hs1 H1 g1 hR r1 => p.rt v Hs1 H1 (g0.trans g1) (by rw [hD]; exact ⟨x, r1, f x hR⟩)
theorem evd_pcall1 {pre : α → Prop} {R : α → β → Prop} {a : α} (ha : EvD K G ta a) (hp : pre a) : EvP K G (tCall (spR (A := α) (fun a => [dyn a]) pre (fun a => RetP (R a)) K) [] X (tCons ta tNil)) (R a) := evp_call a (eva_cons ha eva_nil) hp
end

/-! ### lists lent: for a while the slots' own lists are read as if they stood still -/
def plusL (Hs H : Hp) : Hp := fun b => match Hs b with
  | some o => some o
  | none => match H b with
    | some (.lst xs) => some (.lst xs)
    | _ => none
theorem plus_s {Hs H : Hp} : Same Hs (plusL Hs H) := fun b o h => by
  unfold plusL
  rw [h]
theorem plus_h {Hs H : Hp} (e : Same Hs H) : Same (plusL Hs H) H := fun b o h => by
  unfold plusL at h
  cases z : Hs b with
  | some o' =>
    rw [z] at h
    cases h
    exact e b _ z
  | none =>
    rw [z] at h
    dsimp only at h
    cases y : H b with
    | none => rw [y] at h; cases h
    | some u =>
      rw [y] at h
      cases u <;> first | exact h | cases h
theorem plus_new {Hs H : Hp} {b : Addr} {o : HO} (h : plusL Hs H b = some o) : Hs b = some o ∨ ∃ xs, o = .lst xs := by
  unfold plusL at h
  cases z : Hs b with
  | some o' =>
    rw [z] at h
    exact .inl h
  | none =>
    rw [z] at h
    dsimp only at h
    cases y : H b with
    | none => rw [y] at h; cases h
    | some u =>
      rw [y] at h
      cases u with
      | lst xs => exact .inr ⟨xs, (Option.some.inj h).symm⟩
      | _ => cases h
theorem plus_lst {Hs H : Hp} {b : Addr} {xs : List V} (h : H b = some (.lst xs)) (n : Hs b = none) : plusL Hs H b = some (.lst xs) := by
  unfold plusL
  rw [n, h]
def Lend (k k' : SlotK) : Prop := ∀ K Hs H v F, (∀ a ∈ F, Hs a = none) → k.P K Hs H v F → k'.P K (plusL Hs H) H v []
theorem lend_pure {α : Type} [Rep α] {x : α} : Lend (pureK x) (pureK x) := fun K Hs H v F _ h => Rep.mono plus_s h
theorem lend_own {α : Type} [Rep α] {l : List α} : Lend (ownK l) (pureK l) := fun K Hs H v F hF ⟨a, vs, h1, h2, h3, h4⟩ => ⟨a, vs, h1, plus_lst h3 (hF a (by rw [h2]; simp)), h4.imp fun _ _ r => Rep.mono plus_s r⟩
inductive LendG : GEnv → GEnv → Prop
  | nil : LendG [] []
  | none {s : Option SlotK} {G G' : GEnv} : LendG G G' → LendG (s :: G) (none :: G')
  | slot {k k' : SlotK} {G G' : GEnv} : Lend k k' → LendG G G' → LendG (some k :: G) (some k' :: G')
theorem LendG.at {G G' : GEnv} (h : LendG G G') : G.length = G'.length ∧ ∀ (i : Nat) (k' : SlotK), G'[i]? = some (some k') → ∃ k, G[i]? = some (some k) ∧ Lend k k' := by
  induction h with
  | nil => exact ⟨rfl, fun i k' h => by simp at h⟩
  | none _ ih =>
    refine ⟨congrArg Nat.succ ih.1, fun i k' h => ?_⟩
    cases i with
    | zero => simp at h
    | succ i => simpa using ih.2 i k' (by simpa using h)
  | slot hl _ ih =>
    refine ⟨congrArg Nat.succ ih.1, fun i k' h => ?_⟩
    cases i with
    | zero =>
      simp at h
      subst h
      exact ⟨_, by simp, hl⟩
    | succ i => simpa using ih.2 i k' (by simpa using h)
theorem EnvOk.lend {K : KF} {H0 Hs H : Hp} {σ : L2.St} {G G' : GEnv} {E : List Addr} (e : EnvOk K H0 Hs H σ G E) (h : LendG G G') : EnvOk K H0 (plusL Hs H) H σ G' [] := by
  obtain ⟨h1, h2⟩ := h.at
  obtain ⟨h0, sub, len, F, f1, f2, f3, f4⟩ := e
  refine ⟨h0, plus_h sub, len.trans h1, fun _ => [], (fun _ _ _ q => nomatch q), (fun _ _ q => nomatch q), fun a q => ?_, fun i k' hk' => ?_⟩
  · rcases q with q | ⟨_, q⟩ <;> exact nomatch q
  · obtain ⟨k, hk, hl⟩ := h2 i k' hk'
    obtain ⟨v, hv, hp⟩ := f4 i k hk
    exact ⟨v, hv, hl K Hs H v (F i) (fun a ha => (f3 a (.inr ⟨i, ha⟩)).1) hp⟩
/-- a fraction that was reckoned from lent lists stands without them -/
theorem rat_back {K : KF} {Hs H Hs' H' : Hp} {v : V} {r : Rat} (e : Same Hs H) (g : Grow (plusL Hs H) H Hs' H') (h : Rep.rep K Hs' v r) : ∃ Hs2, Grow Hs H Hs2 H' ∧ Rep.rep K Hs2 v r := by
  obtain ⟨a, u, w, rfl, ht, h1, h2⟩ := h
  have ge : Grow Hs H Hs H' := ⟨Same.refl _, g.h, e.trans g.h, fun _ _ q => .inl q⟩
  have go : ∀ o, Hs' a = some o → (∀ xs, o ≠ .lst xs) → ∃ Hs2, Grow Hs H Hs2 H' ∧ Hs2 a = some o := fun o ho hne => by
    rcases g.new a o ho with z | z
    · rcases plus_new z with y | ⟨xs, y⟩
      · exact ⟨Hs, ge, y⟩
      · exact absurd y (hne xs)
    · exact ⟨upd Hs a o, grow_put ge z (e.free z) (g.sub a o ho), upd_same⟩
  rcases ht with (ht | ⟨o, ht⟩) | ht
  · obtain ⟨Hs2, g2, h3⟩ := go _ ht (fun _ z => nomatch z)
    exact ⟨Hs2, g2, a, u, w, rfl, .inl (.inl h3), h1, h2⟩
  · obtain ⟨Hs2, g2, h3⟩ := go _ ht (fun _ z => nomatch z)
    exact ⟨Hs2, g2, a, u, w, rfl, .inl (.inr ⟨o, h3⟩), h1, h2⟩
  · exact ⟨Hs, ge, a, u, w, rfl, .inr ht, h1, h2⟩
theorem evd_lend {K : KF} {G G' : GEnv} {t : TE} {r : Rat} (hl : LendG G G') (h : EvD K G' t r) : EvD K G t r := fun H0 Hs H σ E e Q q =>
  h H0 _ H σ [] (e.lend hl) Q fun v Hs' H' g r => by
    obtain ⟨Hs2, g2, r2⟩ := rat_back e.sub g r
    exact q v Hs2 H' g2 r2
theorem nat_any {K : KF} {H H' : Hp} : ∀ {vs : List V} {l : List Nat}, All2 (Rep.rep K H) vs l → All2 (Rep.rep K H') vs l
  | [], [], _ => trivial
  | _ :: _, _ :: _, h => ⟨h.1, nat_any h.2⟩
  | [], _ :: _, h => h.elim
  | _ :: _, [], h => h.elim
theorem evn_lend {K : KF} {G G' : GEnv} {t : TE} {l : List Nat} (hl : LendG G G') (h : EvN K G' t l) : EvN K G t l := fun H0 Hs H σ E e Q q =>
  h H0 _ H σ [] (e.lend hl) Q fun p vs Hs' H' g h1 h2 h3 r => q p vs Hs H' ⟨Same.refl _, g.h, e.sub.trans g.h, fun _ _ q => .inl q⟩ h1 (e.sub.free h1) h3 (nat_any r)
end BB

/-! what leads where -/
namespace BB
open PySem PySem.Spec L2
variable {P : Program} {w : World} {K : KF} {mg : Str → Option Value} {base : Heap} {aZ aO : Addr}
theorem range_map_succ {α : Type} (f : Nat → α) (i : Nat) : (List.range (i + 1)).map f = (List.range i).map f ++ [f i] := by
  rw [List.range_succ, List.map_append]
  rfl
open Classical in
noncomputable def leadM (tab : Tab) (n i j : Nat) : Option Bool := if Reach tab n i j true then some true else if Reach tab n i j false then some false else none
noncomputable def leadsM (tab : Tab) (n : Nat) : Tab := (List.range n).map fun i => (List.range n).map fun j => leadM tab n i j
theorem table_sq (bs : List Buy) (ls : List Link) : Sq (tableM bs ls).length (tableM bs ls) where
  len := rfl
  row := fun r hr => by
    unfold tableM at hr ⊢
    obtain ⟨i, _, rfl⟩ := List.mem_map.mp hr
    simp
theorem table_len (bs : List Buy) (ls : List Link) : (tableM bs ls).length = bs.length := by simp [tableM]
abbrev sp_leads := sp1 (fun (d : DataM) => BuysOk d.goods d.buys) (fun (d : DataM) => leadsM (tableM d.buys d.links) d.buys.length)
theorem FR.t {tab : Tab} {n i : Nat} {m : FM} (h : FR tab n i m) (k : Nat) (hk : (mAt m k true).isSome = true) : leadM tab n i k = some true := by
  unfold leadM
  rw [if_pos ((h.iff k true).mp hk)]
theorem FR.f {tab : Tab} {n i : Nat} {m : FM} (h : FR tab n i m) (k : Nat) (hk : (mAt m k true).isSome = false) (hf : (mAt m k false).isSome = true) : leadM tab n i k = some false := by
  unfold leadM
  rw [if_neg (fun z => by rw [(h.iff k true).mpr z] at hk; cases hk), if_pos ((h.iff k false).mp hf)]
theorem FR.n {tab : Tab} {n i : Nat} {m : FM} (h : FR tab n i m) (k : Nat) (hk : (mAt m k true).isSome = false) (hf : (mAt m k false).isSome = false) : leadM tab n i k = none := by
  unfold leadM
  rw [if_neg (fun z => by rw [(h.iff k true).mpr z] at hk; cases hk), if_neg (fun z => by rw [(h.iff k false).mpr z] at hf; cases hf)]
theorem ok_leads {f : Addr} {fd : FuncData} (F : Fun K "leads" "leads" s_leads f fd) (B : Bi P mg base) (Cstep_table : Cal P w K mg base 45 "step_table" ["data"] (sp_step_table K)) (Cfind_in : Cal P w K mg base 40 "find_in" ["table", "i"] (sp_find_in P w K)) : FnOk P w K mg base CX0 46 f fd ["data"] (sp_leads K) :=
  fn_st F sc_leads (fun _ => rfl) fun cdv A' outer s H E hr => ⟨_,
(pss_cons (ps_set (i := 1) sc_leads.nd rfl (.inl rfl) (pe_cal Cstep_table (hr.mono (by decide)) (by rfl) (pa_cons (pv 0) pa_nil)))
(pss_cons (ps_set (i := 2) sc_leads.nd rfl (.inl rfl) (pe_callB call_len_seq (by rfl) B.len PySem.boot_len (pa_cons (pe_fld (pv 0) rfl) pa_nil)))
(pss_cons (ps_set (i := 3) sc_leads.nd rfl (.inl rfl) (pe_lst pa_nil))
(pss_cons (ps_for PassesOwn.never rfl (pi_range1 (by rfl) B.range (pa_cons (pv 2) pa_nil)) (pg_name (i := 4) sc_leads.nd rfl (.inl rfl))
(pss_cons (ps_set (i := 5) sc_leads.nd rfl (.inl rfl) (pe_cal Cfind_in (hr.mono (by decide)) (by rfl) (pa_cons (pv 1) (pa_cons (pv 4) pa_nil))))
(pss_cons (ps_set (i := 6) sc_leads.nd rfl (.inl rfl) (pe_lst pa_nil))
(pss_cons (ps_for PassesOwn.never rfl (pi_range1 (by rfl) B.range (pa_cons (pv 2) pa_nil)) (pg_name (i := 7) sc_leads.nd rfl (.inl rfl))
(pss_one (ps_if (pt_cmpR (op_fin (hu_of hr)) (pe_tup (pa_cons (pv 7) (pa_cons pe_bl pa_nil))) (pv 5) (by rfl))
(pss_one (ps_expr (pe_bm PySem.F.plainAttrs_list PySem.F.slot_list_append PySem.F.type_list_append mt_append (pv 6) (pa_cons pe_bl pa_nil))))
(pss_one (ps_if (pt_cmpR (op_fin (hu_of hr)) (pe_tup (pa_cons (pv 7) (pa_cons pe_bl pa_nil))) (pv 5) (by rfl))
(pss_one (ps_expr (pe_bm PySem.F.plainAttrs_list PySem.F.slot_list_append PySem.F.type_list_append mt_append (pv 6) (pa_cons pe_bl pa_nil))))
(pss_one (ps_expr (pe_bm PySem.F.plainAttrs_list PySem.F.slot_list_append PySem.F.type_list_append mt_append (pv 6) (pa_cons pe_non pa_nil)))))))))
(pss_one (ps_expr (pe_bm PySem.F.plainAttrs_list PySem.F.slot_list_append PySem.F.type_list_append mt_append (pv 3) (pa_cons (pv 6) pa_nil))))))))
(pss_one (ps_ret (pv 3))))))), 
fun d hp => by
    show StD K [pureS d, none, none, none, none, none, none, none] _ _
    have hp : BuysOk d.goods d.buys := hp
    have hl := hp.len
    refine st_seq (st_set (evd_call1 (evd_var rfl) hp) ?_)
    refine st_seq (st_set (len_of (EvD.l (evd_buys (evd_var rfl)))) ?_)
    refine st_seq (st_own (evn_nil (α := List (Option Bool))) ?_)
    show StD K [pureS d, pureS (tableM d.buys d.links), pureS d.buys.length, ownS [], none, none, none, none] _ _
    have hsq := table_sq d.buys d.links
    have htl := table_len d.buys d.links
    generalize htab : tableM d.buys d.links = tab at *
    refine st_seq (st_forR (fun i G' => ∃ s4 s5 s6 s7, G' = [pureS d, pureS tab, pureS d.buys.length, ownS ((List.range i).map fun i => (List.range d.buys.length).map fun j => leadM tab d.buys.length i j), s4, s5, s6, s7]) (evd_var rfl) (by omega) ⟨_, _, _, _, rfl⟩ (fun i G' hi hI => ?_) fun G' hI => ?_)
    · obtain ⟨s4, s5, s6, s7, rfl⟩ := hI
      refine st_seq (st_callF (tab, i) (eva_cons (evd_var rfl) (eva_cons (evd_var rfl) eva_nil)) ⟨hsq, by rw [htl]; exact hi, by show tab.length ≤ 8; omega⟩ fun m hm => ?_)
      have hm : FR tab d.buys.length i m := by rw [← htl]; exact hm
      refine st_seq (st_own (evn_nil (α := Option Bool)) ?_)
      refine st_seq (st_forR (fun j G' => ∃ s7, G' = [pureS d, pureS tab, pureS d.buys.length, ownS ((List.range i).map fun i => (List.range d.buys.length).map fun j => leadM tab d.buys.length i j), pureS i, some (dictK P w m), ownS ((List.range j).map fun j => leadM tab d.buys.length i j), s7]) (evd_var rfl) (by omega) ⟨_, rfl⟩ (fun j G' hj hJ => ?_) fun G' hJ => ?_)
      · obtain ⟨s7, rfl⟩ := hJ
        have hz : ((List.range j).map fun j => leadM tab d.buys.length i j).length < 100000 := by simp; omega
        have nx : ∀ o, leadM tab d.buys.length i j = o → ∃ s7', [pureS d, pureS tab, pureS d.buys.length, ownS ((List.range i).map fun i => (List.range d.buys.length).map fun j => leadM tab d.buys.length i j), pureS i, some (dictK P w m), ownS (((List.range j).map fun j => leadM tab d.buys.length i j) ++ [o]), pureS j] =
            [pureS d, pureS tab, pureS d.buys.length, ownS ((List.range i).map fun i => (List.range d.buys.length).map fun j => leadM tab d.buys.length i j), pureS i, some (dictK P w m), ownS ((List.range (j + 1)).map fun j => leadM tab d.buys.length i j), s7'] := by
          rintro o rfl
          refine ⟨pureS j, ?_⟩
          rw [List.range_succ, List.map_append]
          rfl
        refine st_if (evb_test (evd_fin rfl (ek_tup (evd_var rfl) evd_bl))) (fun h => ?_) (fun h => ?_)
        · exact st_app rfl (EvD.some evd_bl) hz (nx _ (hm.t j h))
        · refine st_if (evb_test (evd_fin rfl (ek_tup (evd_var rfl) evd_bl))) (fun h' => ?_) (fun h' => ?_)
          · exact st_app rfl (EvD.some evd_bl) hz (nx _ (hm.f j h h'))
          · exact st_app rfl evd_non hz (nx _ (hm.n j h h'))
      · obtain ⟨s7, rfl⟩ := hJ
        rw [range_map_succ]
        exact st_freeze 6 rfl (st_app rfl (evd_var rfl) (by simp; omega) ⟨_, _, _, _, rfl⟩)
    · obtain ⟨s4, s5, s6, s7, rfl⟩ := hI
      exact st_freeze 3 rfl (st_ret (evd_var rfl) rfl (by show _ = leadsM (tableM d.buys d.links) d.buys.length; rw [htab]; rfl))
⟩
abbrev sp_find_chain := spR (A := DataM × Nat × Nat) (fun a => [dyn a.1, dyn a.2.1, dyn a.2.2]) (fun a => BuysOk a.1.goods a.1.buys ∧ a.2.1 < a.1.buys.length ∧ Reach (tableM a.1.buys a.1.links) a.1.buys.length a.2.1 a.2.2 true)
  (fun a => RetP fun c : List Nat => CF (tableM a.1.buys a.1.links) a.1.buys.length a.2.1 c a.2.2 true ∧ c.length ≤ 2 * a.1.buys.length)
theorem ok_find_chain {f : Addr} {fd : FuncData} (F : Fun K "find_chain" "find_chain" s_find_chain f fd) (B : Bi P mg base) (Cstep_table : Cal P w K mg base 45 "step_table" ["data"] (sp_step_table K)) (Cfind_in : Cal P w K mg base 40 "find_in" ["table", "i"] (sp_find_in P w K)) : FnOk P w K mg base CX0 46 f fd ["data", "i", "j"] (sp_find_chain K) :=
  fn_st F sc_find_chain (fun _ => rfl) fun cdv A' outer s H E hr => ⟨_,
(pss_cons (ps_set (i := 3) sc_find_chain.nd rfl (.inl rfl) (pe_cal Cfind_in (hr.mono (by decide)) (by rfl) (pa_cons (pe_cal Cstep_table (hr.mono (by decide)) (by rfl) (pa_cons (pv 0) pa_nil)) (pa_cons (pv 1) pa_nil))))
(pss_cons (ps_if (pt_cmpR (op_fin (hu_of hr)) (pe_tup (pa_cons (pv 2) (pa_cons pe_bl pa_nil))) (pv 3) (by rfl))
(pss_one (ps_ret (pe_fget (hu_of hr) (pv 3) (pe_tup (pa_cons (pv 2) (pa_cons pe_bl pa_nil))) (fun _ _ => rfl))))
pss_nil)
(pss_cons (ps_if (pt_cmpR (op_fin (hu_of hr)) (pe_tup (pa_cons (pv 2) (pa_cons pe_bl pa_nil))) (pv 3) (by rfl))
(pss_one (ps_ret (pe_fget (hu_of hr) (pv 3) (pe_tup (pa_cons (pv 2) (pa_cons pe_bl pa_nil))) (fun _ _ => rfl))))
pss_nil)
(pss_one (ps_ret pe_non))))), 
fun ⟨d, i, j⟩ hp => by
    show StD K [pureS d, pureS i, pureS j, none] _ _
    obtain ⟨hb, hi, hr⟩ : BuysOk d.goods d.buys ∧ i < d.buys.length ∧ Reach (tableM d.buys d.links) d.buys.length i j true := hp
    have hl := hb.len
    have hsq := table_sq d.buys d.links
    have htl := table_len d.buys d.links
    refine st_seq (st_callF (tableM d.buys d.links, i) (eva_cons (evd_call1 (evd_var rfl) hb) (eva_cons (evd_var rfl) eva_nil)) ⟨hsq, by rw [htl]; exact hi, by show (tableM d.buys d.links).length ≤ 8; omega⟩ fun m hm => ?_)
    have hm : FR (tableM d.buys d.links) d.buys.length i m := by rw [← htl]; exact hm
    have hs := (hm.iff j true).mpr hr
    obtain ⟨c, hc⟩ := Option.isSome_iff_exists.mp hs
    refine st_seq (st_if (evb_test (evd_fin rfl (ek_tup (evd_var rfl) evd_bl))) (fun h => ?_) (fun h => ?_))
    · exact st_retP (EvD.p (R := fun x => x = c) (evd_fget rfl (ek_tup (evd_var rfl) evd_bl) hc) rfl) rfl (fun x hx => by
        subst hx
        exact hm.cf j true x hc)
    · rw [hs] at h
      cases h
⟩
end BB

/-! one taste out of data without a ring -/
namespace BB

theorem Reach.trans {tab : Tab} {n i j k : Nat} {s t : Bool} (a : Reach tab n i j s) (b : Reach tab n j k t) : Reach tab n i k (s || t) := by
  induction b with
  | refl => rw [Bool.or_false]; exact a
  | @step j' k' s' o _ h1 h2 ih =>
    rw [← Bool.or_assoc]
    exact .step ih h1 h2
theorem Reach.lt {tab : Tab} {n i k : Nat} {s : Bool} (h : Reach tab n i k s) (hi : i < n) : k < n := by
  cases h with
  | refl => exact hi
  | step _ h _ => exact h
def Lead (tab : Tab) (n i j : Nat) : Prop := ∃ s, Reach tab n i j s
theorem Lead.refl {tab : Tab} {n i : Nat} : Lead tab n i i := ⟨_, .refl⟩
theorem Lead.trans {tab : Tab} {n i j k : Nat} (a : Lead tab n i j) (b : Lead tab n j k) : Lead tab n i k := let ⟨_, a⟩ := a; let ⟨_, b⟩ := b; ⟨_, a.trans b⟩

def cnt : Nat → (Nat → Bool) → Nat
  | 0, _ => 0
  | n + 1, p => cnt n p + (if p n = true then 1 else 0)
theorem cnt_le {p q : Nat → Bool} : ∀ {n : Nat}, (∀ k, k < n → p k = true → q k = true) → cnt n p ≤ cnt n q
  | 0, _ => Nat.le_refl _
  | n + 1, h => by
    have h1 := cnt_le (n := n) fun k hk => h k (by omega)
    have h2 := h n (Nat.lt_succ_self n)
    show cnt n p + (if p n = true then 1 else 0) ≤ cnt n q + (if q n = true then 1 else 0)
    by_cases e : p n = true
    · rw [if_pos e, if_pos (h2 e)]; omega
    · rw [if_neg e]; split <;> omega
theorem cnt_lt {p q : Nat → Bool} {x : Nat} : ∀ {n : Nat}, (∀ k, k < n → p k = true → q k = true) → x < n → q x = true → p x = false → cnt n p < cnt n q
  | 0, _, hx, _, _ => absurd hx (Nat.not_lt_zero _)
  | n + 1, h, hx, hq, hp => by
    have h2 := h n (Nat.lt_succ_self n)
    show cnt n p + (if p n = true then 1 else 0) < cnt n q + (if q n = true then 1 else 0)
    by_cases e : x = n
    · subst e
      have h1 := cnt_le (p := p) (q := q) (n := x) fun k hk => h k (by omega)
      rw [if_neg (by rw [hp]; simp), if_pos hq]
      omega
    · have h1 := cnt_lt (p := p) (q := q) (n := n) (fun k hk => h k (by omega)) (by omega) hq hp
      by_cases e : p n = true
      · rw [if_pos e, if_pos (h2 e)]; omega
      · rw [if_neg e]; split <;> omega
theorem cnt_max {p : Nat → Bool} : ∀ {n : Nat}, cnt n p ≤ n
  | 0 => Nat.le_refl _
  | n + 1 => by
    have := cnt_max (p := p) (n := n)
    show cnt n p + (if p n = true then 1 else 0) ≤ n + 1
    split <;> omega
theorem cnt_full {p : Nat → Bool} {n : Nat} (h : n ≤ cnt n p) : ∀ k, k < n → p k = true := by
  induction n with
  | zero => exact fun k hk => absurd hk (Nat.not_lt_zero _)
  | succ n ih =>
    intro k hk
    have h1 := cnt_max (p := p) (n := n)
    have h : n + 1 ≤ cnt n p + (if p n = true then 1 else 0) := h
    by_cases e : p n = true
    · rw [if_pos e] at h
      by_cases z : k = n
      · subst z; exact e
      · exact ih (by omega) k (by omega)
    · rw [if_neg e] at h
      omega
theorem le_of_div_le {a g v : Rat} (hg : 0 < g) (h : a / g ≤ v) : a ≤ v * g := by
  have h1 := Rat.mul_le_mul_of_nonneg_right h (Rat.le_of_lt hg)
  rwa [Rat.div_mul_cancel (Rat.ne_of_gt hg)] at h1

/-- where not all is done there is one to which none leads that is not of its own class -/
theorem source {n : Nat} {L : Nat → Nat → Prop} (refl : ∀ i, L i i) (trans : ∀ i j k, L i j → L j k → L i k) {D : Nat → Bool} : ∀ (m i : Nat), i < n → D i = false →
    (∀ (Lb : Nat → Nat → Bool), (∀ a b, Lb a b = true ↔ L a b) → cnt n (fun k => !D k && Lb k i) ≤ m) → ∃ a, a < n ∧ D a = false ∧ ∀ j, j < n → D j = false → L j a → L a j := by
  intro m
  induction m with
  | zero =>
    intro i hi hd hm
    classical
    have h0 := hm (fun a b => decide (L a b)) (fun a b => decide_eq_true_iff)
    have h1 := cnt_lt (p := fun _ => false) (q := fun k => !D k && decide (L k i)) (x := i) (n := n) (fun _ _ h => nomatch h) hi (by simp [hd, refl i]) rfl
    omega
  | succ m ih =>
    intro i hi hd hm
    classical
    by_cases h : ∀ j, j < n → D j = false → L j i → L i j
    · exact ⟨i, hi, hd, h⟩
    · simp only [Classical.not_forall] at h
      obtain ⟨j, hj, hdj, hji, hij⟩ := h
      refine ih j hj hdj fun Lb hLb => ?_
      have h0 := hm Lb hLb
      have h1 := cnt_lt (p := fun k => !D k && Lb k j) (q := fun k => !D k && Lb k i) (x := i) (n := n) (fun k _ hk => by
        simp only [Bool.and_eq_true] at hk ⊢
        exact ⟨hk.1, (hLb k i).mpr (trans _ _ _ ((hLb k j).mp hk.2) hji)⟩) hi (by simp [hd, (hLb i i).mpr (refl i)]) (by
        simp only [Bool.and_eq_false_iff]
        exact .inr (Bool.eq_false_iff.mpr fun z => hij ((hLb i j).mp z)))
      omega

/-- what holds of the taste between two rounds -/
structure AF (n : Nat) (L : Nat → Nat → Prop) (gap : Nat → Nat → Rat) (N W : Nat → Rat) (D : Nat → Bool) : Prop where
  clo : ∀ i j, i < n → j < n → D j = true → L i j → D i = true
  w : ∀ i, i < n → D i = true → 1 ≤ W i
  pl : ∀ i j, i < n → j < n → D i = true → D j = true → N j ≤ N i + W i * gap i j
  dn : ∀ i j, i < n → j < n → D i = true → D j = true → L i j → ¬ L j i → N j + 1 ≤ N i
  eq : ∀ i j, i < n → j < n → D i = true → D j = true → L i j → L j i → N i = N j
theorem AF.start {n : Nat} {L : Nat → Nat → Prop} {gap : Nat → Nat → Rat} {N W : Nat → Rat} {D : Nat → Bool} (h : ∀ i, i < n → D i = false) : AF n L gap N W D := by
  refine ⟨fun i j _ hj d => ?_, fun i hi d => ?_, fun i j hi _ d => ?_, fun i j hi _ d => ?_, fun i j hi _ d => ?_⟩
  · rw [h j hj] at d; cases d
  · rw [h i hi] at d; cases d
  · rw [h i hi] at d; cases d
  · rw [h i hi] at d; cases d
  · rw [h i hi] at d; cases d
theorem AF.add {n : Nat} {L : Nat → Nat → Prop} {gap : Nat → Nat → Rat} {N W : Nat → Rat} {D : Nat → Bool} (A : AF n L gap N W D) (trans : ∀ i j k, L i j → L j k → L i k)
    (hgp : ∀ i j, i < n → j < n → ¬ L i j → 0 < gap i j) (hgn : ∀ i j, i < n → j < n → L i j → L j i → 0 ≤ gap i j)
    {i0 : Nat} (hi0 : i0 < n) (hd0 : D i0 = false) (src : ∀ j, j < n → D j = false → L j i0 → L i0 j) {M : Nat → Bool} (hM : ∀ j, j < n → (M j = true ↔ L i0 j ∧ L j i0)) {x : Rat} {v : Nat → Rat}
    (hx : ∀ k, k < n → D k = true → x + 1 ≤ N k ∧ ∀ m, m < n → M m = true → x + 1 ≤ N k + W k * gap k m) (hv : ∀ m, m < n → M m = true → 1 ≤ v m ∧ ∀ k, k < n → D k = true → (N k - x) / gap m k ≤ v m) :
    AF n L gap (fun j => if M j = true then x else N j) (fun j => if M j = true then v j else W j) (fun j => M j || D j) := by
  have notD : ∀ j, j < n → M j = true → D j = false := fun j hj hm => by
    cases z : D j with
    | false => rfl
    | true => rw [A.clo i0 j hi0 hj z ((hM j hj).mp hm).1] at hd0; cases hd0
  have notM : ∀ j, j < n → D j = true → ¬ M j = true := fun j hj hd hm => by rw [notD j hj hm] at hd; cases hd
  have inM : ∀ j, (M j || D j) = true → M j = true ∨ (¬ M j = true ∧ D j = true) := fun j h => by
    rw [Bool.or_eq_true] at h
    by_cases z : M j = true
    · exact .inl z
    · exact .inr ⟨z, h.resolve_left z⟩
  refine ⟨fun i j hi hj d l => ?_, fun i hi d => ?_, fun i j hi hj d d' => ?_, fun i j hi hj d d' l l' => ?_, fun i j hi hj d d' l l' => ?_⟩
  · show (M i || D i) = true
    rcases inM j d with m | ⟨m, d⟩
    · by_cases z : D i = true
      · rw [z, Bool.or_true]
      · have z : D i = false := by simpa using z
        have l2 : L i i0 := trans _ _ _ l ((hM j hj).mp m).2
        rw [(hM i hi).mpr ⟨src i hi z l2, l2⟩, Bool.true_or]
    · rw [A.clo i j hi hj d l, Bool.or_true]
  · rcases inM i d with m | ⟨m, d⟩
    · rw [if_pos m]
      exact (hv i hi m).1
    · rw [if_neg m]
      exact A.w i hi d
  · rcases inM i d with m | ⟨m, d⟩ <;> rcases inM j d' with m' | ⟨m', d'⟩
    · rw [if_pos m, if_pos m, if_pos m']
      have h1 := (hv i hi m).1
      have h2 := hgn i j hi hj (trans _ _ _ ((hM i hi).mp m).2 ((hM j hj).mp m').1) (trans _ _ _ ((hM j hj).mp m').2 ((hM i hi).mp m).1)
      have h3 := Rat.mul_nonneg (show 0 ≤ v i by grind) h2
      grind
    · rw [if_pos m, if_pos m, if_neg m']
      have h0 : ¬ L i j := fun z => by have q := A.clo i j hi hj d' z; rw [notD i hi m] at q; cases q
      have h1 := hgp i j hi hj h0
      have h2 := (hv i hi m).2 j hj d'
      have h3 : (N j - x) ≤ v i * gap i j := le_of_div_le h1 h2
      grind
    · rw [if_neg m, if_neg m, if_pos m']
      have h1 := (hx i hi d).2 j hj m'
      grind
    · rw [if_neg m, if_neg m, if_neg m']
      exact A.pl i j hi hj d d'
  · rcases inM i d with m | ⟨m, d⟩ <;> rcases inM j d' with m' | ⟨m', d'⟩
    · exact absurd (trans _ _ _ ((hM j hj).mp m').2 ((hM i hi).mp m).1) l'
    · have := A.clo i j hi hj d' l
      rw [notD i hi m] at this
      cases this
    · rw [if_neg m, if_pos m']
      exact (hx i hi d).1
    · rw [if_neg m, if_neg m']
      exact A.dn i j hi hj d d' l l'
  · rcases inM i d with m | ⟨m, d⟩ <;> rcases inM j d' with m' | ⟨m', d'⟩
    · rw [if_pos m, if_pos m']
    · have := A.clo i j hi hj d' l
      rw [notD i hi m] at this
      cases this
    · have := A.clo j i hj hi d l'
      rw [notD j hj m'] at this
      cases this
    · rw [if_neg m, if_neg m']
      exact A.eq i j hi hj d d' l l'
end BB

/-! the parts of a taste -/
namespace BB
open PySem PySem.Spec L2
variable {P : Program} {w : World} {K : KF} {mg : Str → Option Value} {base : Heap} {aZ aO : Addr}
abbrev s_next_class : Stmt := topS 29
abbrev N_next_class : List Str := ["table", "done", "count", "i", "free", "j"]
theorem sc_next_class : FnScope N_next_class ["table", "done"] (defScope s_next_class) := ⟨rfl, rfl, rfl, by decide +kernel, rfl, by decide +kernel, by decide +kernel⟩

abbrev s_class_number : Stmt := topS 30
abbrev N_class_number : List Str := ["data", "taste", "done", "members", "numbers", "best", "k", "found", "value", "j"]
theorem sc_class_number : FnScope N_class_number ["data", "taste", "done", "members"] (defScope s_class_number) := ⟨rfl, rfl, rfl, by decide +kernel, rfl, by decide +kernel, by decide +kernel⟩

abbrev s_member_weight : Stmt := topS 31
abbrev N_member_weight : List Str := ["data", "numbers", "done", "number", "j", "best", "prices", "money", "k", "value"]
theorem sc_member_weight : FnScope N_member_weight ["data", "numbers", "done", "number", "j"] (defScope s_member_weight) := ⟨rfl, rfl, rfl, by decide +kernel, rfl, by decide +kernel, by decide +kernel⟩

abbrev s_make_taste : Stmt := topS 32
abbrev N_make_taste : List Str := ["data", "table", "count", "k", "numbers", "weights", "done", "_", "members", "number", "found", "j"]
theorem sc_make_taste : FnScope N_make_taste ["data", "table"] (defScope s_make_taste) := ⟨rfl, rfl, rfl, by decide +kernel, rfl, by decide +kernel, by decide +kernel⟩

abbrev s_check : Stmt := topS 33
abbrev N_check : List Str := ["data", "table", "i"]
theorem sc_check : FnScope N_check ["data"] (defScope s_check) := ⟨rfl, rfl, rfl, by decide +kernel, rfl, by decide +kernel, by decide +kernel⟩

def badM (tab : Tab) (D : List Bool) (i j : Nat) : Bool := (!D.getD j default) && ((tg tab j i).isSome && (tg tab i j).isNone)
def freeM (tab : Tab) (D : List Bool) (i m : Nat) : Bool := allN m fun j => !badM tab D i j
def pickM (tab : Tab) (D : List Bool) (n i : Nat) : Bool := (!D.getD i default) && freeM tab D i n
def nextM (tab : Tab) (D : List Bool) : List Nat := match (List.range tab.length).find? (pickM tab D tab.length) with
  | none => []
  | some i => ((List.range tab.length).filter fun j => (tg tab i j).isSome && (tg tab j i).isSome).map fun j => j
abbrev sp_next_class := spR (A := Tab × List Bool) (fun a => [dyn a.1, dyn a.2]) (fun a => a.1.length ≤ 8 ∧ Sq a.1.length a.1 ∧ a.2.length = a.1.length) (fun a => RetL (nextM a.1 a.2))
theorem ok_next_class {f : Addr} {fd : FuncData} (F : Fun K "next_class" "next_class" s_next_class f fd) (B : Bi P mg base) : FnOk P w K mg base CX0 40 f fd ["table", "done"] (sp_next_class K) :=
  fn_st F sc_next_class (fun _ => rfl) fun cdv A' outer s H E hr => ⟨_,
(pss_cons (ps_set (i := 2) sc_next_class.nd rfl (.inl rfl) (pe_callB call_len_seq (by rfl) B.len PySem.boot_len (pa_cons (pv 0) pa_nil)))
(pss_cons (ps_for PassesOwn.never rfl (pi_range1 (by rfl) B.range (pa_cons (pv 2) pa_nil)) (pg_name (i := 3) sc_next_class.nd rfl (.inr rfl))
(pss_one (ps_if (pt_not (pt_val (pe_ix ix_list (pv 1) (pv 3) (fun _ _ => rfl))))
(pss_cons (ps_set (i := 4) sc_next_class.nd rfl (.inl rfl) pe_bl)
(pss_cons (ps_for PassesOwn.never rfl (pi_range1 (by rfl) B.range (pa_cons (pv 2) pa_nil)) (pg_name (i := 5) sc_next_class.nd rfl (.inl rfl))
(pss_one (ps_if (PW.pt (pw_and (pt_not (pt_val (pe_ix ix_list (pv 1) (pv 5) (fun _ _ => rfl)))) (pw_and (pt_cmpR op_notN (pe_ix ix_list (pe_ix ix_list (pv 0) (pv 5) (fun _ _ => rfl)) (pv 3) (fun _ _ => rfl)) pe_non (nomark _)) (pw_and1 (pt_cmpR op_isN (pe_ix ix_list (pe_ix ix_list (pv 0) (pv 3) (fun _ _ => rfl)) (pv 5) (fun _ _ => rfl)) pe_non (nomark _))))))
(pss_one (ps_set (i := 4) sc_next_class.nd rfl (.inl rfl) pe_bl))
pss_nil)))
(pss_one (ps_if (pt_val (pv 4))
(pss_one (ps_ret (pe_lc (own := [("j", 5)]) (g := gName 5) rfl sc_next_class.nd (pi_range1 (by rfl) B.range (pa_cons (pv 2) pa_nil)) (blkOk_by (N := N_next_class) (sc := defScope s_next_class) (by decide +kernel)) (fun _ _ _ _ _ => (pg_name (i := 5) sc_next_class.nd rfl (.inl rfl))) (fun _ _ _ _ _ => (pts_one (PW.pt (pw_and (pt_cmpR op_notN (pe_ix ix_list (pe_ix ix_list (pv 0) (pv 3) (fun _ _ => rfl)) (pv 5) (fun _ _ => rfl)) pe_non (nomark _)) (pw_and1 (pt_cmpR op_notN (pe_ix ix_list (pe_ix ix_list (pv 0) (pv 5) (fun _ _ => rfl)) (pv 3) (fun _ _ => rfl)) pe_non (nomark _))))))) (fun _ _ _ _ _ => (pv 5)))))
pss_nil))))
pss_nil)))
(pss_one (ps_ret (pe_lst pa_nil))))), 
fun ⟨tab, D⟩ hp => by
    show StD K [pureS tab, pureS D, none, none, none, none] _ _
    obtain ⟨h8, hsq, hD⟩ : tab.length ≤ 8 ∧ Sq tab.length tab ∧ D.length = tab.length := hp
    refine st_seq (st_set (len_of (EvD.l (evd_var rfl))) ?_)
    refine st_seq (st_forR (fun i G' => (∃ s3 s4 s5, G' = [pureS tab, pureS D, pureS tab.length, s3, s4, s5]) ∧ ∀ k, k < i → pickM tab D tab.length k = false) (evd_var rfl) (by omega) ⟨⟨_, _, _, rfl⟩, fun k hk => absurd hk (Nat.not_lt_zero _)⟩ (fun i G' hi hI => ?_) fun G' hI => ?_)
    · obtain ⟨⟨s3, s4, s5, rfl⟩, hI⟩ := hI
      refine st_if (evb_not (evb_B (evd_ix (EvD.l (evd_var rfl)) (evd_var rfl) (by omega)))) (fun h => ?_) (fun h => st_next ⟨⟨_, _, _, rfl⟩, fun k hk => ?_⟩)
      · refine st_seq (st_set evd_bl ?_)
        refine st_seq (st_forR (fun j G' => ∃ s5, G' = [pureS tab, pureS D, pureS tab.length, pureS i, pureS (freeM tab D i j), s5]) (evd_var rfl) (by omega) ⟨_, rfl⟩ (fun j G' hj hJ => ?_) fun G' hJ => ?_)
        · obtain ⟨s5, rfl⟩ := hJ
          have e1 : freeM tab D i (j + 1) = (freeM tab D i j && !badM tab D i j) := rfl
          refine st_if (b := badM tab D i j) (evb_and (evb_not (evb_B (evd_ix (EvD.l (evd_var rfl)) (evd_var rfl) (by omega)))) fun z => (evb_and (evb_test (evd_notN (evd_ix (EvD.l (evd_ix (EvD.l (evd_var rfl)) (evd_var rfl) hj)) (evd_var rfl) (by rw [hsq.at hj]; exact hi)))) fun z => (evb_test (evd_isN (evd_ix (EvD.l (evd_ix (EvD.l (evd_var rfl)) (evd_var rfl) hi)) (evd_var rfl) (by rw [hsq.at hi]; exact hj)))))) (fun h => ?_) (fun h => ?_)
          · exact st_set evd_bl ⟨pureS j, by rw [e1, h, Bool.not_true, Bool.and_false]; rfl⟩
          · exact st_next ⟨pureS j, by rw [e1, h, Bool.not_false, Bool.and_true]; rfl⟩
        · obtain ⟨s5, rfl⟩ := hJ
          refine st_if (evb_B (evd_var rfl)) (fun h' => ?_) (fun h' => st_next ⟨⟨_, _, _, rfl⟩, fun k hk => ?_⟩)
          · refine st_retN (evn_lcR (fun j => (tg tab i j).isSome && (tg tab j i).isSome) (fun j => j) (evd_var rfl) (by omega) (by decide) (fun k hk => (evb_and (evb_test (evd_notN (evd_ix (EvD.l (evd_ix (EvD.l (evd_var rfl)) (evd_var rfl) hi)) (evd_var rfl) (by rw [hsq.at hi]; exact hk)))) fun z => (evb_test (evd_notN (evd_ix (EvD.l (evd_ix (EvD.l (evd_var rfl)) (evd_var rfl) hk)) (evd_var rfl) (by rw [hsq.at hk]; exact hi)))))) (fun k hk hc => (evd_var rfl))) rfl ?_
            have hf : (List.range tab.length).find? (pickM tab D tab.length) = some i := List.find?_range_eq_some.mpr ⟨by unfold pickM; rw [h, h']; rfl, List.mem_range.mpr hi, fun j hj => by rw [hI j hj]; rfl⟩
            show _ = nextM tab D
            unfold nextM
            rw [hf]
          · rcases Nat.lt_succ_iff_lt_or_eq.mp hk with z | z
            · exact hI k z
            · subst z
              unfold pickM
              rw [h', Bool.and_false]
      · rcases Nat.lt_succ_iff_lt_or_eq.mp hk with z | z
        · exact hI k z
        · subst z
          unfold pickM
          rw [h, Bool.false_and]
    · obtain ⟨⟨s3, s4, s5, rfl⟩, hI⟩ := hI
      refine st_retN evn_nil rfl ?_
      have hf : (List.range tab.length).find? (pickM tab D tab.length) = none := List.find?_range_eq_none.mpr fun j hj => by rw [hI j hj]; rfl
      show _ = nextM tab D
      unfold nextM
      rw [hf]
⟩
end BB

/-! the numbers and weights of a taste -/
namespace BB
open PySem PySem.Spec L2
variable {P : Program} {w : World} {K : KF} {mg : Str → Option Value} {base : Heap} {aZ aO : Addr}
theorem pe_fldN {X : Cx} {K : KF} {x f : Str} {p pos : Pos} {ta : TE} (he : PE X (.Name x p) ta) (hK : X.K = K := by rfl) : PE X (.Attribute (.Name x p) f pos) (tFld K ta f) := hK ▸ pe_fld he rfl
def minO (o : Option Rat) (v : Rat) : Option Rat := if (o.isNone || decide (v < o.getD 0)) = true then some v else o
theorem minO_le {o : Option Rat} {v : Rat} : ∃ b, minO o v = some b ∧ b ≤ v ∧ (∀ b0, o = some b0 → b ≤ b0) ∧ (b = v ∨ o = some b) := by
  unfold minO
  cases o with
  | none => exact ⟨v, rfl, Rat.le_refl, (fun _ h => nomatch h), .inl rfl⟩
  | some c =>
    by_cases h : v < c
    · exact ⟨v, by simp [h], Rat.le_refl, fun b0 e => by cases e; exact Rat.le_of_lt h, .inl rfl⟩
    · exact ⟨c, by simp [h], Rat.not_lt.mp h, fun b0 e => by cases e; exact Rat.le_refl, .inr rfl⟩
theorem minO_fold : ∀ {l : List Rat} {o : Option Rat}, (∀ v ∈ l, ∃ b, l.foldl minO o = some b ∧ b ≤ v) ∧ (∀ b0, o = some b0 → ∃ b, l.foldl minO o = some b ∧ b ≤ b0) ∧ (∀ b, l.foldl minO o = some b → o = some b ∨ b ∈ l)
  | [], o => ⟨fun _ h => (nomatch h), fun b0 e => ⟨b0, e, Rat.le_refl⟩, fun b e => .inl e⟩
  | v :: l, o => by
    obtain ⟨h1, h2, h3⟩ := minO_fold (l := l) (o := minO o v)
    obtain ⟨b, e, e1, e2, e3⟩ := minO_le (o := o) (v := v)
    refine ⟨fun x hx => ?_, fun b0 hb => ?_, fun c hc => ?_⟩
    · rcases List.mem_cons.mp hx with z | z
      · subst z
        obtain ⟨c, q1, q2⟩ := h2 b e
        exact ⟨c, q1, Rat.le_trans q2 e1⟩
      · exact h1 x z
    · obtain ⟨c, q1, q2⟩ := h2 b e
      exact ⟨c, q1, Rat.le_trans q2 (e2 b0 hb)⟩
    · rcases h3 c hc with z | z
      · rw [e] at z
        cases z
        rcases e3 with z | z
        · exact .inr (by rw [z]; exact List.mem_cons_self)
        · exact .inl z
      · exact .inr (List.mem_cons_of_mem _ z)
def valsM (bs : List Buy) (t : List Rat × List Rat) (ms : List Nat) (k : Nat) : List Rat := [t.1.getD k default] ++ ms.map fun j => planeM bs t k (bs.getD j default).2
def bestM (bs : List Buy) (t : List Rat × List Rat) (D : List Bool) (ms : List Nat) (n : Nat) : Option Rat := iter n (fun k b => if D.getD k default = true then (valsM bs t ms k).foldl minO b else b) none
theorem best_law {bs : List Buy} {t : List Rat × List Rat} {D : List Bool} {ms : List Nat} : ∀ {n : Nat}, (∀ k, k < n → D.getD k default = true → ∀ v ∈ valsM bs t ms k, ∃ b, bestM bs t D ms n = some b ∧ b ≤ v) ∧
    (∀ b, bestM bs t D ms n = some b → ∃ k, k < n ∧ D.getD k default = true ∧ b ∈ valsM bs t ms k)
  | 0 => ⟨fun _ h => absurd h (Nat.not_lt_zero _), fun _ h => nomatch h⟩
  | n + 1 => by
    obtain ⟨h1, h2⟩ := best_law (bs := bs) (t := t) (D := D) (ms := ms) (n := n)
    have e : bestM bs t D ms (n + 1) = if D.getD n default = true then (valsM bs t ms n).foldl minO (bestM bs t D ms n) else bestM bs t D ms n := rfl
    by_cases z : D.getD n default = true
    · rw [e, if_pos z]
      obtain ⟨g1, g2, g3⟩ := minO_fold (l := valsM bs t ms n) (o := bestM bs t D ms n)
      refine ⟨fun k hk hd v hv => ?_, fun b hb => ?_⟩
      · rcases Nat.lt_succ_iff_lt_or_eq.mp hk with y | y
        · obtain ⟨b, q1, q2⟩ := h1 k y hd v hv
          obtain ⟨c, q3, q4⟩ := g2 b q1
          exact ⟨c, q3, Rat.le_trans q4 q2⟩
        · subst y
          exact g1 v hv
      · rcases g3 b hb with y | y
        · obtain ⟨k, q1, q2⟩ := h2 b y
          exact ⟨k, by omega, q2⟩
        · exact ⟨n, by omega, z, y⟩
    · rw [e, if_neg z]
      refine ⟨fun k hk hd v hv => ?_, fun b hb => ?_⟩
      · rcases Nat.lt_succ_iff_lt_or_eq.mp hk with y | y
        · exact h1 k y hd v hv
        · subst y
          exact absurd hd z
      · obtain ⟨k, q1, q2⟩ := h2 b hb
        exact ⟨k, by omega, q2⟩
def numM (bs : List Buy) (t : List Rat × List Rat) (D : List Bool) (ms : List Nat) : Rat := match bestM bs t D ms D.length with
  | none => 0
  | some b => b - 1
structure NumOk (d : DataM) (t : List Rat × List Rat) (D : List Bool) (ms : List Nat) : Prop where
  buys : BuysOk d.goods d.buys
  l1 : t.1.length = d.buys.length
  l2 : t.2.length = d.buys.length
  l3 : D.length = d.buys.length
  ml : ms.length ≤ 8
  ms : ∀ j ∈ ms, j < d.buys.length
  f1 : FitL 1000000 t.1
  f2 : FitL 1000000 t.2
theorem NumOk.plane {d : DataM} {t : List Rat × List Rat} {D : List Bool} {ms : List Nat} (h : NumOk d t D ms) {k j : Nat} (hk : k < d.buys.length) (hj : j ∈ ms) : PlaneOk d t k (d.buys.getD j default).2 :=
  ⟨h.buys, hk, by rw [h.l1]; exact hk, by rw [h.l2]; exact hk, h.buys.bas (h.ms j hj), h.f1.getD (by rw [h.l1]; exact hk), h.f2.getD (by rw [h.l2]; exact hk)⟩
theorem NumOk.vals {d : DataM} {t : List Rat × List Rat} {D : List Bool} {ms : List Nat} (h : NumOk d t D ms) {k : Nat} (hk : k < d.buys.length) : FitL 2001045 (valsM d.buys t ms k) := fun x hx => by
  rcases List.mem_append.mp hx with z | z
  · rw [List.mem_singleton.mp z]
    exact (h.f1.getD (by rw [h.l1]; exact hk)).mono (by decide)
  · obtain ⟨j, hj, rfl⟩ := List.mem_map.mp z
    exact (h.plane hk hj).fit
theorem minO_fit {n : Nat} {l : List Rat} {o : Option Rat} (hl : FitL n l) (ho : ∀ b, o = some b → FitR n b) : ∀ b, l.foldl minO o = some b → FitR n b := fun b hb => by
  rcases minO_fold.2.2 b hb with z | z
  · exact ho b z
  · exact hl b z
theorem NumOk.best {d : DataM} {t : List Rat × List Rat} {D : List Bool} {ms : List Nat} (h : NumOk d t D ms) {n : Nat} (hn : n ≤ d.buys.length) : ∀ b, bestM d.buys t D ms n = some b → FitR 2001045 b := fun b hb => by
  obtain ⟨k, hk, _, hb⟩ := best_law.2 b hb
  exact h.vals (by omega) b hb
abbrev sp_class_number := sp4 NumOk (fun d t D ms => numM d.buys t D ms)
theorem ok_class_number {f : Addr} {fd : FuncData} (F : Fun K "class_number" "class_number" s_class_number f fd) (B : Bi P mg base) (Z : Zc K mg aZ aO) (Csub : Cal P w K mg base 41 "sub" ["a", "b"] (sp_sub K)) (Cless : Cal P w K mg base 40 "less" ["a", "b"] (sp_less K)) (Cplane : Cal P w K mg base 44 "plane" ["data", "taste", "i", "basket"] (sp_plane K)) : FnOk P w K mg base CX0 45 f fd ["data", "taste", "done", "members"] (sp_class_number K) :=
  fn_st F sc_class_number (fun _ => rfl) fun cdv A' outer s H E hr => ⟨_,
(pss_cons (ps_set (i := 4) sc_class_number.nd rfl (.inl rfl) (pe_ix ix_tup (pv 1) pe_int (fun _ _ => rfl)))
(pss_cons (ps_set (i := 5) sc_class_number.nd rfl (.inl rfl) pe_non)
(pss_cons (ps_for PassesOwn.never rfl (pi_range1 (by rfl) B.range (pa_cons (pe_callB call_len_seq (by rfl) B.len PySem.boot_len (pa_cons (pv 2) pa_nil)) pa_nil)) (pg_name (i := 6) sc_class_number.nd rfl (.inr rfl))
(pss_one (ps_if (pt_val (pe_ix ix_list (pv 2) (pv 6) (fun _ _ => rfl)))
(pss_cons (ps_set (i := 7) sc_class_number.nd rfl (.inl rfl) (pe_op op_cat (pe_lst (pa_cons (pe_ix ix_list (pv 4) (pv 6) (fun _ _ => rfl)) pa_nil)) (pe_lc (own := [("j", 9)]) (g := gName 9) (tt := tYes) rfl sc_class_number.nd (pi_list (pv 3)) (blkOk_by (N := N_class_number) (sc := defScope s_class_number) (by decide +kernel)) (fun _ _ _ _ _ => (pg_name (i := 9) sc_class_number.nd rfl (.inl rfl))) (fun _ _ _ _ _ => pts_nil) (fun _ _ _ _ _ => (pe_cal Cplane (hr.mono (by decide)) (by rfl) (pa_cons (pv 0) (pa_cons (pv 1) (pa_cons (pv 6) (pa_cons (pe_ix ix_tup (pe_ix ix_list (pe_fldN (K := K) (pv 0)) (pv 9) (fun _ _ => rfl)) pe_int (fun _ _ => rfl)) pa_nil)))))))))
(pss_one (ps_for PassesOwn.never rfl (pi_list (pv 7)) (pg_name (i := 8) sc_class_number.nd rfl (.inl rfl))
(pss_one (ps_if (PW.pt (pw_or (pt_cmpR op_isN (pv 5) pe_non (nomark _)) (pw_or1 (pt_val (pe_cal Cless (hr.mono (by decide)) (by rfl) (pa_cons (pv 8) (pa_cons (pv 5) pa_nil)))))))
(pss_one (ps_set (i := 5) sc_class_number.nd rfl (.inl rfl) (pv 8)))
pss_nil)))))
pss_nil)))
(pss_cons (ps_if (pt_cmpR op_isN (pv 5) pe_non (nomark _))
(pss_one (ps_ret (pe_glob (v := .ref aZ) (by rfl) Z.zero rfl)))
pss_nil)
(pss_one (ps_ret (pe_cal Csub (hr.mono (by decide)) (by rfl) (pa_cons (pv 5) (pa_cons (pe_glob (v := .ref aO) (by rfl) Z.one rfl) pa_nil))))))))), 
fun ⟨d, t, D, ms⟩ hp => by
    show StD K [pureS d, pureS t, pureS D, pureS ms, none, none, none, none, none, none] _ _
    have hp : NumOk d t D ms := hp
    have h8 := hp.buys.len
    have hl1 := hp.l1
    have hl3 := hp.l3
    have hml := hp.ml
    refine st_seq (st_set (evd_fst (evd_var rfl)) ?_)
    refine st_seq (st_set (evd_non (α := Rat)) ?_)
    refine st_seq (st_forR (fun k G' => ∃ s6 s7 s8 s9, G' = [pureS d, pureS t, pureS D, pureS ms, pureS t.1, pureS (bestM d.buys t D ms k), s6, s7, s8, s9]) (len_of (EvD.l (evd_var rfl))) (by omega) ⟨_, _, _, _, rfl⟩ (fun k G' hk hI => ?_) fun G' hI => ?_)
    · obtain ⟨s6, s7, s8, s9, rfl⟩ := hI
      have hk' : k < d.buys.length := by omega
      have e0 : bestM d.buys t D ms (k + 1) = if D.getD k default = true then (valsM d.buys t ms k).foldl minO (bestM d.buys t D ms k) else bestM d.buys t D ms k := rfl
      refine st_if (evb_B (evd_ix (EvD.l (evd_var rfl)) (evd_var rfl) hk)) (fun h => ?_) (fun h => ?_)
      · rw [e0, if_pos h]
        refine st_seq (st_set (EvN.d (evn_cat (EvN.l (evn_lst (evi_cons (evd_ix (EvD.l (evd_var rfl)) (evd_var rfl) (by omega)) evi_nil) (by simp))) (EvN.l (evn_lcL0 (fun j => planeM d.buys t k (d.buys.getD j default).2) (EvD.l (evd_var rfl)) (by omega) (by decide) (fun i j hj => (evd_call4 (evd_var rfl) (evd_var rfl) (evd_var rfl) (evd_snd (evd_ix (EvD.l (evd_buys (evd_var rfl))) (evd_var rfl) (hp.ms j (List.mem_of_getElem? hj)))) (hp.plane hk' (List.mem_of_getElem? hj)))))) (by simp; omega))) ?_)
        refine st_forL (l := valsM d.buys t ms k) (fun i G' => ∃ s8 s9, G' = [pureS d, pureS t, pureS D, pureS ms, pureS t.1, pureS (((valsM d.buys t ms k).take i).foldl minO (bestM d.buys t D ms k)), pureS k, pureS (valsM d.buys t ms k), s8, s9]) (evd_var rfl) ⟨_, _, rfl⟩ (fun i x G' hx hJ => ⟨_, gd_name, ?_⟩) fun G' hJ => ?_
        · obtain ⟨s8, s9, rfl⟩ := hJ
          have hfx := (hp.vals hk' x (List.mem_of_getElem? hx)).mono (show 2001045 ≤ 40000000 by decide)
          have hfo := minO_fit (l := (valsM d.buys t ms k).take i) (fun y hy => hp.vals hk' y (List.mem_of_mem_take hy)) (hp.best (n := k) (by omega))
          rw [foldl_take hx]
          generalize hO : ((valsM d.buys t ms k).take i).foldl minO (bestM d.buys t D ms k) = o at *
          refine st_if (b := o.isNone || decide (x < o.getD 0)) (evb_or (evb_test (evd_isN (evd_var rfl))) fun z => ?_) (fun h => ?_) (fun h => ?_)
          · cases o with
            | none => cases z
            | some c => exact evb_B (evd_call2 (evd_var rfl) (EvD.val (evd_var (x := some c) rfl)) ⟨hfx, (hfo c rfl).mono (by decide)⟩)
          · refine st_set (EvD.some (evd_var (x := x) rfl)) ⟨pureS x, s9, ?_⟩
            unfold minO
            rw [if_pos h]
            rfl
          · refine st_next ⟨pureS x, s9, ?_⟩
            unfold minO
            rw [if_neg (by rw [h]; simp)]
            rfl
        · obtain ⟨s8, s9, rfl⟩ := hJ
          rw [List.take_length]
          exact ⟨_, _, _, _, rfl⟩
      · rw [e0, if_neg (by rw [h]; simp)]
        exact st_next ⟨_, _, _, _, rfl⟩
    · obtain ⟨s6, s7, s8, s9, rfl⟩ := hI
      have hfo := hp.best (n := D.length) (by omega)
      have e1 : numM d.buys t D ms = match bestM d.buys t D ms D.length with
        | none => 0
        | some b => b - 1 := rfl
      generalize bestM d.buys t D ms D.length = o at *
      refine st_seq (st_if (evb_test (evd_isN (evd_var rfl))) (fun h => ?_) (fun h => st_next ?_))
      · refine st_ret (evd_const Z.zt) rfl ?_
        show _ = numM d.buys t D ms
        rw [e1]
        cases o with
        | none => rfl
        | some c => cases h
      · cases o with
        | none => cases h
        | some c => exact st_ret (evd_call2 (EvD.val (evd_var (x := some c) rfl)) (evd_const Z.ot) ⟨(hfo c rfl).mono (by decide), fit_one (by decide)⟩) rfl e1.symm
⟩
def valM (bs : List Buy) (N : List Rat) (x : Rat) (j k : Nat) : Rat := (N.getD k default - x) / gapM bs j (bs.getD k default).2
def maxW (bs : List Buy) (N : List Rat) (D : List Bool) (x : Rat) (j n : Nat) : Rat := iter n (fun k b => if D.getD k default = true then (if b < valM bs N x j k then valM bs N x j k else b) else b) 1
theorem maxW_law {bs : List Buy} {N : List Rat} {D : List Bool} {x : Rat} {j : Nat} : ∀ {n : Nat}, 1 ≤ maxW bs N D x j n ∧ (∀ k, k < n → D.getD k default = true → valM bs N x j k ≤ maxW bs N D x j n) ∧ (maxW bs N D x j n = 1 ∨ ∃ k, k < n ∧ D.getD k default = true ∧ maxW bs N D x j n = valM bs N x j k)
  | 0 => ⟨Rat.le_refl, fun _ h => absurd h (Nat.not_lt_zero _), .inl rfl⟩
  | n + 1 => by
    obtain ⟨h1, h2, h3⟩ := maxW_law (bs := bs) (N := N) (D := D) (x := x) (j := j) (n := n)
    have e : maxW bs N D x j (n + 1) = if D.getD n default = true then (if maxW bs N D x j n < valM bs N x j n then valM bs N x j n else maxW bs N D x j n) else maxW bs N D x j n := rfl
    have old : maxW bs N D x j n = 1 ∨ ∃ k, k < n + 1 ∧ D.getD k default = true ∧ maxW bs N D x j n = valM bs N x j k := h3.imp id fun ⟨k, a, b⟩ => ⟨k, by omega, b⟩
    rw [e]
    by_cases z : D.getD n default = true
    · rw [if_pos z]
      by_cases y : maxW bs N D x j n < valM bs N x j n
      · rw [if_pos y]
        refine ⟨Rat.le_trans h1 (Rat.le_of_lt y), fun k hk hd => ?_, .inr ⟨n, by omega, z, rfl⟩⟩
        rcases Nat.lt_succ_iff_lt_or_eq.mp hk with q | q
        · exact Rat.le_trans (h2 k q hd) (Rat.le_of_lt y)
        · subst q; exact Rat.le_refl
      · rw [if_neg y]
        refine ⟨h1, fun k hk hd => ?_, old⟩
        rcases Nat.lt_succ_iff_lt_or_eq.mp hk with q | q
        · exact h2 k q hd
        · subst q; exact Rat.not_lt.mp y
    · rw [if_neg z]
      refine ⟨h1, fun k hk hd => ?_, old⟩
      rcases Nat.lt_succ_iff_lt_or_eq.mp hk with q | q
      · exact h2 k q hd
      · subst q; exact absurd hd z
structure WeiOk (d : DataM) (N : List Rat) (D : List Bool) (x : Rat) (j : Nat) : Prop where
  buys : BuysOk d.goods d.buys
  l1 : N.length = d.buys.length
  l3 : D.length = d.buys.length
  hj : j < d.buys.length
  f1 : FitL 1000000 N
  fx : FitR 3000000 x
  ne : ∀ k, k < d.buys.length → D.getD k default = true → gapM d.buys j (d.buys.getD k default).2 ≠ 0
theorem WeiOk.val {d : DataM} {N : List Rat} {D : List Bool} {x : Rat} {j : Nat} (h : WeiOk d N D x j) {k : Nat} (hk : k < d.buys.length) (hd : D.getD k default = true) : FitR 40000000 (valM d.buys N x j k) :=
  FitR.div (FitR.sub (h.f1.getD (by rw [h.l1]; exact hk)) h.fx (show 1000000 + 3000000 < 4000001 by decide)) (h.buys.gap h.hj (h.buys.bas hk)) (h.ne k hk hd) (by decide)
theorem WeiOk.max {d : DataM} {N : List Rat} {D : List Bool} {x : Rat} {j : Nat} (h : WeiOk d N D x j) {n : Nat} (hn : n ≤ d.buys.length) : FitR 40000000 (maxW d.buys N D x j n) := by
  rcases (maxW_law (bs := d.buys) (N := N) (D := D) (x := x) (j := j) (n := n)).2.2 with z | ⟨k, hk, hd, z⟩
  · rw [z]; exact fit_one (by decide)
  · rw [z]; exact h.val (by omega) hd
abbrev sp_member_weight := sp5 WeiOk (fun d N D x j => maxW d.buys N D x j D.length)
theorem ok_member_weight {f : Addr} {fd : FuncData} (F : Fun K "member_weight" "member_weight" s_member_weight f fd) (B : Bi P mg base) (Z : Zc K mg aZ aO) (Csub : Cal P w K mg base 41 "sub" ["a", "b"] (sp_sub K)) (Cdiv : Cal P w K mg base 41 "div" ["a", "b"] (sp_div K)) (Cless : Cal P w K mg base 40 "less" ["a", "b"] (sp_less K)) (Ccost : Cal P w K mg base 43 "cost" ["prices", "amounts"] (sp_cost K)) (Cspent : Cal P w K mg base 43 "spent" ["data", "i"] (sp_spent K)) : FnOk P w K mg base CX0 44 f fd ["data", "numbers", "done", "number", "j"] (sp_member_weight K) :=
  fn_st F sc_member_weight (fun _ => rfl) fun cdv A' outer s H E hr => ⟨_,
(pss_cons (ps_set (i := 5) sc_member_weight.nd rfl (.inl rfl) (pe_glob (v := .ref aO) (by rfl) Z.one rfl))
(pss_cons (ps_set (i := 6) sc_member_weight.nd rfl (.inl rfl) (pe_ix ix_tup (pe_ix ix_list (pe_fld (pv 0) rfl) (pv 4) (fun _ _ => rfl)) pe_int (fun _ _ => rfl)))
(pss_cons (ps_set (i := 7) sc_member_weight.nd rfl (.inl rfl) (pe_cal Cspent (hr.mono (by decide)) (by rfl) (pa_cons (pv 0) (pa_cons (pv 4) pa_nil))))
(pss_cons (ps_for PassesOwn.never rfl (pi_range1 (by rfl) B.range (pa_cons (pe_callB call_len_seq (by rfl) B.len PySem.boot_len (pa_cons (pv 2) pa_nil)) pa_nil)) (pg_name (i := 8) sc_member_weight.nd rfl (.inl rfl))
(pss_one (ps_if (pt_val (pe_ix ix_list (pv 2) (pv 8) (fun _ _ => rfl)))
(pss_cons (ps_set (i := 9) sc_member_weight.nd rfl (.inl rfl) (pe_cal Cdiv (hr.mono (by decide)) (by rfl) (pa_cons (pe_cal Csub (hr.mono (by decide)) (by rfl) (pa_cons (pe_ix ix_list (pv 1) (pv 8) (fun _ _ => rfl)) (pa_cons (pv 3) pa_nil))) (pa_cons (pe_cal Csub (hr.mono (by decide)) (by rfl) (pa_cons (pe_cal Ccost (hr.mono (by decide)) (by rfl) (pa_cons (pv 6) (pa_cons (pe_ix ix_tup (pe_ix ix_list (pe_fld (pv 0) rfl) (pv 8) (fun _ _ => rfl)) pe_int (fun _ _ => rfl)) pa_nil))) (pa_cons (pv 7) pa_nil))) pa_nil))))
(pss_one (ps_if (pt_val (pe_cal Cless (hr.mono (by decide)) (by rfl) (pa_cons (pv 5) (pa_cons (pv 9) pa_nil))))
(pss_one (ps_set (i := 5) sc_member_weight.nd rfl (.inl rfl) (pv 9)))
pss_nil)))
pss_nil)))
(pss_one (ps_ret (pv 5))))))), 
fun ⟨d, N, D, x, j⟩ hp => by
    show StD K [pureS d, pureS N, pureS D, pureS x, pureS j, none, none, none, none, none] _ _
    have hp : WeiOk d N D x j := hp
    have h8 := hp.buys.len
    have hl1 := hp.l1
    have hl3 := hp.l3
    have hj := hp.hj
    refine st_seq (st_set (evd_const Z.ot) ?_)
    refine st_seq (st_set (evd_fst (evd_ix (EvD.l (evd_buys (evd_var rfl))) (evd_var rfl) hj)) ?_)
    refine st_seq (st_set (evd_call2 (evd_var rfl) (evd_var rfl) ⟨hp.buys, hj⟩) ?_)
    refine st_seq (st_forR (fun k G' => ∃ s8 s9, G' = [pureS d, pureS N, pureS D, pureS x, pureS j, pureS (maxW d.buys N D x j k), pureS (d.buys.getD j default).1, pureS (spM d.buys j), s8, s9]) (len_of (EvD.l (evd_var rfl))) (by omega) ⟨_, _, rfl⟩ (fun k G' hk hI => ?_) fun G' hI => ?_)
    · obtain ⟨s8, s9, rfl⟩ := hI
      have hk' : k < d.buys.length := by omega
      have e : maxW d.buys N D x j (k + 1) = if D.getD k default = true then (if maxW d.buys N D x j k < valM d.buys N x j k then valM d.buys N x j k else maxW d.buys N D x j k) else maxW d.buys N D x j k := rfl
      rw [e]
      refine st_if (evb_B (evd_ix (EvD.l (evd_var rfl)) (evd_var rfl) hk)) (fun h => ?_) (fun h => ?_)
      · rw [if_pos h]
        have c1 := (hp.buys.co hj (hp.buys.bas hk')).mono (show 521 ≤ 40000000 by decide)
        have c2 := (hp.buys.sp hj).mono (show 521 ≤ 40000000 by decide)
        refine st_seq (st_set (x := valM d.buys N x j k) (evd_call2 (evd_call2 (evd_ix (EvD.l (evd_var rfl)) (evd_var rfl) (by omega)) (evd_var rfl) ⟨(hp.f1.getD (by omega)).mono (by decide), hp.fx.mono (by decide)⟩) (evd_call2 (evd_call2 (evd_var rfl) (evd_snd (evd_ix (EvD.l (evd_buys (evd_var rfl))) (evd_var rfl) hk')) (hp.buys.dot hj (hp.buys.bas hk'))) (evd_var rfl) ⟨c1, c2⟩) ⟨?_, ?_, hp.ne k hk' h⟩) ?_)
        · exact (FitR.sub (hp.f1.getD (by omega)) hp.fx (show 1000000 + 3000000 < 4000001 by decide)).mono (by decide)
        · exact (hp.buys.gap hj (hp.buys.bas hk')).mono (by decide)
        · refine st_if (evb_B (evd_call2 (evd_var rfl) (evd_var rfl) ⟨hp.max (by omega), hp.val hk' h⟩)) (fun h' => ?_) (fun h' => ?_)
          · rw [if_pos (of_decide_eq_true h')]
            exact st_set (evd_var rfl) ⟨_, _, rfl⟩
          · rw [if_neg (of_decide_eq_false h')]
            exact st_next ⟨_, _, rfl⟩
      · rw [if_neg (by rw [h]; simp)]
        exact st_next ⟨_, _, rfl⟩
    · obtain ⟨s8, s9, rfl⟩ := hI
      exact st_ret (evd_var rfl) rfl rfl
⟩
end BB

/-! a taste out of data without a ring: the rounds -/
namespace BB

theorem link_keep {i j : Nat} : ∀ {ls : List Link} {r : Option Bool}, (r.isSome = true → (ls.foldl (linkStep i j) r).isSome = true) ∧ (r = some true → ls.foldl (linkStep i j) r = some true)
  | [], r => ⟨id, id⟩
  | l :: ls, r => by
    obtain ⟨h1, h2⟩ := link_keep (i := i) (j := j) (ls := ls) (r := linkStep i j r l)
    refine ⟨fun h => h1 ?_, fun h => h2 ?_⟩
    · unfold linkStep
      split
      · rfl
      · exact h
    · unfold linkStep
      split
      · rw [h]; rfl
      · exact h
theorem link_in {i j : Nat} : ∀ {ls : List Link} {r : Option Bool} {l : Link}, l ∈ ls → l.a = i → l.b = j → (ls.foldl (linkStep i j) r).isSome = true ∧ (l.c = true → ls.foldl (linkStep i j) r = some true)
  | [], _, _, h, _, _ => nomatch h
  | m :: ls, r, l, h, ha, hb => by
    rcases List.mem_cons.mp h with z | z
    · subst z
      obtain ⟨h1, h2⟩ := link_keep (i := i) (j := j) (ls := ls) (r := linkStep i j r l)
      have e : linkStep i j r l = some (decide (r = some true) || l.c) := by
        unfold linkStep
        rw [if_pos (by simp [ha, hb])]
      refine ⟨h1 (by rw [e]; rfl), fun hc => h2 (by rw [e, hc, Bool.or_true])⟩
    · exact link_in (ls := ls) z ha hb
theorem dot_def (bs : List Buy) (i : Nat) : gapM bs i (bs.getD i default).2 = 0 := by
  unfold gapM coM spM
  rw [Rat.sub_eq_add_neg, Rat.add_neg_cancel]
theorem tg_map {n i j : Nat} {f : Nat → Nat → Option Bool} (hi : i < n) (hj : j < n) : tg ((List.range n).map fun i => (List.range n).map fun j => f i j) i j = f i j := by
  unfold tg
  simp [List.getD_eq_getElem?_getD, List.getElem?_map, List.getElem?_range hi, List.getElem?_range hj]
theorem tg_table {bs : List Buy} {ls : List Link} {i j : Nat} (hi : i < bs.length) (hj : j < bs.length) : tg (tableM bs ls) i j = stepM bs ls i j := tg_map hi hj
theorem tg_leads {tab : Tab} {n i j : Nat} (hi : i < n) (hj : j < n) : tg (leadsM tab n) i j = leadM tab n i j := tg_map hi hj
theorem lead_some {tab : Tab} {n i j : Nat} : (leadM tab n i j).isSome = true ↔ Lead tab n i j := by
  unfold leadM
  constructor
  · intro h
    split at h
    · exact ⟨true, ‹_›⟩
    · split at h
      · exact ⟨false, ‹_›⟩
      · cases h
  · rintro ⟨s, h⟩
    cases s with
    | true => rw [if_pos h]; rfl
    | false =>
      split
      · rfl
      · rfl
theorem lead_true {tab : Tab} {n i j : Nat} : leadM tab n i j = some true ↔ Reach tab n i j true := by
  unfold leadM
  constructor
  · intro h
    split at h
    · assumption
    · split at h <;> cases h
  · intro h
    rw [if_pos h]
theorem leads_len {tab : Tab} {n : Nat} : (leadsM tab n).length = n := by simp [leadsM]
theorem leads_sq {tab : Tab} {n : Nat} : Sq (leadsM tab n).length (leadsM tab n) where
  len := rfl
  row := fun r hr => by
    rw [leads_len]
    unfold leadsM at hr
    obtain ⟨i, _, rfl⟩ := List.mem_map.mp hr
    simp
/-- the data have no ring -/
def NoRing (bs : List Buy) (ls : List Link) : Prop := ∀ i, i < bs.length → ¬ Reach (tableM bs ls) bs.length i i true
def gapF (bs : List Buy) (i j : Nat) : Rat := gapM bs i (bs.getD j default).2
section
variable {bs : List Buy} {ls : List Link}
abbrev LeadB (bs : List Buy) (ls : List Link) (i j : Nat) : Prop := Lead (tableM bs ls) bs.length i j
theorem step_reach {i j : Nat} {o : Bool} (hi : i < bs.length) (hj : j < bs.length) (h : stepM bs ls i j = some o) : Reach (tableM bs ls) bs.length i j o := by
  have := Reach.step (o := o) (Reach.refl (tab := tableM bs ls) (n := bs.length) (i := i)) hj (by rw [tg_table hi hj]; exact h)
  simpa using this
theorem step_lead {i j : Nat} (hi : i < bs.length) (hj : j < bs.length) (h : (stepM bs ls i j).isSome = true) : LeadB bs ls i j := by
  obtain ⟨o, ho⟩ := Option.isSome_iff_exists.mp h
  exact ⟨o, step_reach hi hj ho⟩
theorem gap_lead {i j : Nat} (hi : i < bs.length) (hj : j < bs.length) (h : gapF bs i j ≤ 0) : LeadB bs ls i j := by
  by_cases e : i = j
  · subst e
    exact Lead.refl
  · refine step_lead hi hj (link_keep.1 ?_)
    unfold costStep
    have h : coM bs i (bs.getD j default).2 - spM bs i ≤ 0 := h
    rw [if_neg e, if_pos (by grind)]
    rfl
theorem gap_strict {i j : Nat} (hi : i < bs.length) (hj : j < bs.length) (h : gapF bs i j < 0) : Reach (tableM bs ls) bs.length i j true := by
  have e : i ≠ j := fun e => by
    subst e
    rw [gapF, dot_def] at h
    exact absurd h (by decide)
  refine step_reach hi hj (link_keep.2 ?_)
  unfold costStep
  have h : coM bs i (bs.getD j default).2 - spM bs i < 0 := h
  rw [if_neg e, if_pos (by grind)]
  congr 1
  exact decide_eq_true (by grind)
theorem gap_pos {i j : Nat} (hi : i < bs.length) (hj : j < bs.length) (h : ¬ LeadB bs ls i j) : 0 < gapF bs i j := Rat.not_le.mp fun z => h (gap_lead hi hj z)
theorem gap_nn (hR : NoRing bs ls) {i j : Nat} (hi : i < bs.length) (hj : j < bs.length) (h : LeadB bs ls j i) : 0 ≤ gapF bs i j := Rat.not_lt.mp fun z => by
  obtain ⟨s, h⟩ := h
  have := (gap_strict (ls := ls) hi hj z).trans h
  rw [Bool.true_or] at this
  exact hR i hi this

abbrev AFB (bs : List Buy) (ls : List Link) (N W : List Rat) (D : List Bool) : Prop := AF bs.length (LeadB bs ls) (gapF bs) (fun k => N.getD k default) (fun k => W.getD k default) (fun k => D.getD k default)
/-- where all is done the taste is accepted -/
theorem AF.judge {d : DataM} {N W : List Rat} {D : List Bool} (A : AFB d.buys d.links N W D) (hR : NoRing d.buys d.links) (hl : LinksOk d.buys.length d.links) (h1 : N.length = d.buys.length) (h2 : W.length = d.buys.length) (hD : ∀ k, k < d.buys.length → D.getD k default = true) : judgeM d (N, W) = true := by
  unfold judgeM
  rw [if_neg (by simp [h1, h2]), Bool.and_eq_true]
  refine ⟨allN_iff.mpr fun i hi => ?_, ?_⟩
  · unfold tastePart
    rw [Bool.and_eq_true]
    refine ⟨?_, allN_iff.mpr fun j hj => ?_⟩
    · have := A.w i hi (hD i hi)
      simp only [Bool.not_eq_true', decide_eq_false_iff_not]
      exact fun z => absurd (Rat.le_trans this z) (by decide)
    · have : N.getD j default ≤ planeM d.buys (N, W) i (d.buys.getD j default).2 := A.pl i j hi hj (hD i hi) (hD j hj)
      simp only [Bool.not_eq_true', decide_eq_false_iff_not]
      exact Rat.not_lt.mpr this
  · unfold holdM
    rw [List.all_eq_true]
    intro l hm
    obtain ⟨ha, hb⟩ := hl l hm
    obtain ⟨g1, g2⟩ := link_in (i := l.a) (j := l.b) (r := costStep d.buys l.a l.b) hm rfl rfl
    have hL : LeadB d.buys d.links l.a l.b := step_lead ha hb g1
    have hle : N.getD l.b default ≤ N.getD l.a default := by
      by_cases z : LeadB d.buys d.links l.b l.a
      · exact (A.eq l.a l.b ha hb (hD _ ha) (hD _ hb) hL z) ▸ Rat.le_refl
      · have := A.dn l.a l.b ha hb (hD _ ha) (hD _ hb) hL z
        grind
    unfold linkM
    simp only [Bool.not_eq_true', Bool.or_eq_false_iff, decide_eq_false_iff_not]
    refine ⟨Rat.not_lt.mpr hle, ?_⟩
    cases hc : l.c with
    | false => rfl
    | true =>
      have hs := step_reach ha hb (g2 hc)
      have nb : ¬ LeadB d.buys d.links l.b l.a := fun ⟨s, z⟩ => hR _ ha (by have := hs.trans z; rwa [Bool.true_or] at this)
      have := A.dn l.a l.b ha hb (hD _ ha) (hD _ hb) hL nb
      rw [Bool.true_and, decide_eq_false_iff_not]
      intro z
      rw [z] at this
      grind
/-! ### one round -/
def setAll {α : Type} (l : List α) (ms : List Nat) (f : Nat → α) : List α := ms.foldl (fun l m => l.set m (f m)) l
theorem setAll_len {α : Type} {f : Nat → α} : ∀ {ms : List Nat} {l : List α}, (setAll l ms f).length = l.length
  | [], l => rfl
  | m :: ms, l => by
    show (setAll (l.set m (f m)) ms f).length = _
    rw [setAll_len, List.length_set]
theorem setAll_get {α : Type} [Inhabited α] {f : Nat → α} {j : Nat} : ∀ {ms : List Nat} {l : List α}, j < l.length → (setAll l ms f).getD j default = if j ∈ ms then f j else l.getD j default
  | [], l, _ => by simp [setAll]
  | m :: ms, l, h => by
    show (setAll (l.set m (f m)) ms f).getD j default = _
    rw [setAll_get (by rw [List.length_set]; exact h)]
    by_cases z : j ∈ ms
    · rw [if_pos z, if_pos (List.mem_cons_of_mem _ z)]
    · rw [if_neg z]
      by_cases y : j = m
      · subst y
        rw [if_pos List.mem_cons_self, List.getD_eq_getElem?_getD, List.getElem?_set_self h]
        rfl
      · rw [if_neg (by simp [y, z]), List.getD_eq_getElem?_getD, List.getElem?_set_ne (Ne.symm y), ← List.getD_eq_getElem?_getD]
theorem setAll_fit {n : Nat} {f : Nat → Rat} : ∀ {ms : List Nat} {l : List Rat}, FitL n l → (∀ m ∈ ms, FitR n (f m)) → FitL n (setAll l ms f)
  | [], l, h, _ => h
  | m :: ms, l, h, hf => by
    refine setAll_fit (l := l.set m (f m)) (fun x hx => ?_) fun k hk => hf k (List.mem_cons_of_mem _ hk)
    rcases List.mem_or_eq_of_mem_set hx with z | z
    · exact h x z
    · rw [z]; exact hf m List.mem_cons_self
theorem AF.congr {n : Nat} {L : Nat → Nat → Prop} {gap : Nat → Nat → Rat} {N W N' W' : Nat → Rat} {D D' : Nat → Bool} (A : AF n L gap N W D) (h1 : ∀ j, j < n → N j = N' j) (h2 : ∀ j, j < n → W j = W' j) (h3 : ∀ j, j < n → D j = D' j) : AF n L gap N' W' D' :=
  ⟨fun i j hi hj a b => h3 i hi ▸ A.clo i j hi hj (h3 j hj ▸ a) b, fun i hi a => h2 i hi ▸ A.w i hi (h3 i hi ▸ a), fun i j hi hj a b => h1 i hi ▸ h1 j hj ▸ h2 i hi ▸ A.pl i j hi hj (h3 i hi ▸ a) (h3 j hj ▸ b),
    fun i j hi hj a b c e => h1 i hi ▸ h1 j hj ▸ A.dn i j hi hj (h3 i hi ▸ a) (h3 j hj ▸ b) c e, fun i j hi hj a b c e => h1 i hi ▸ h1 j hj ▸ A.eq i j hi hj (h3 i hi ▸ a) (h3 j hj ▸ b) c e⟩
theorem cnt_all {p : Nat → Bool} : ∀ {n : Nat}, (∀ k, k < n → p k = true) → n ≤ cnt n p
  | 0, _ => Nat.le_refl _
  | n + 1, h => by
    have := cnt_all (p := p) (n := n) fun k hk => h k (by omega)
    show n + 1 ≤ cnt n p + (if p n = true then 1 else 0)
    rw [if_pos (h n (Nat.lt_succ_self n))]
    omega
def bnd : Nat → Nat
  | 0 => 1
  | r + 1 => 3 * bnd r + 2090
theorem bnd_pos : ∀ r, 1 ≤ bnd r
  | 0 => Nat.le_refl _
  | r + 1 => by show 1 ≤ 3 * bnd r + 2090; omega
theorem bnd_mono : ∀ {r k : Nat}, r ≤ k → bnd r ≤ bnd k
  | r, 0, h => by rw [Nat.le_zero.mp h]; exact Nat.le_refl _
  | r, k + 1, h => by
    rcases Nat.lt_succ_iff_lt_or_eq.mp (Nat.lt_succ_of_le h) with z | z
    · have := bnd_mono (show r ≤ k by omega)
      show bnd r ≤ 3 * bnd k + 2090
      omega
    · rw [z]; exact Nat.le_refl _
theorem bnd_5 {r : Nat} (h : r ≤ 5) : bnd r ≤ 300000 := Nat.le_trans (bnd_mono h) (by decide)
/-- between two rounds -/
structure Rd (d : DataM) (N W : List Rat) (D : List Bool) (r : Nat) : Prop where
  l1 : N.length = d.buys.length
  l2 : W.length = d.buys.length
  l3 : D.length = d.buys.length
  af : AFB d.buys d.links N W D
  c : r ≤ cnt d.buys.length fun k => D.getD k default
  f1 : FitL (bnd r) N
  f2 : FitL (bnd r) W
noncomputable abbrev memM (d : DataM) (D : List Bool) : List Nat := nextM (leadsM (tableM d.buys d.links) d.buys.length) D
theorem pick_iff {tab : Tab} {n : Nat} {D : List Bool} {i : Nat} (hi : i < n) : pickM (leadsM tab n) D n i = true ↔ D.getD i default = false ∧ ∀ j, j < n → D.getD j default = false → Lead tab n j i → Lead tab n i j := by
  unfold pickM freeM
  rw [Bool.and_eq_true, allN_iff, Bool.not_eq_true']
  refine and_congr_right fun _ => ⟨fun h j hj hd hl => ?_, fun h j hj => ?_⟩
  · have h := h j hj
    unfold badM at h
    rw [tg_leads hj hi, tg_leads hi hj, hd, lead_some.mpr hl] at h
    cases z : leadM tab n i j with
    | none => rw [z] at h; cases h
    | some o => exact lead_some.mp (by rw [z]; rfl)
  · unfold badM
    rw [tg_leads hj hi, tg_leads hi hj]
    cases hd : D.getD j default with
    | true => rfl
    | false =>
      cases z : (leadM tab n j i).isSome with
      | false => rfl
      | true =>
        have := lead_some.mpr (h j hj hd (lead_some.mp z))
        cases y : leadM tab n i j with
        | none => rw [y] at this; cases this
        | some o => rfl
/-- what the next class is -/
theorem next_law (d : DataM) (D : List Bool) : (memM d D = [] ∧ ∀ i, i < d.buys.length → D.getD i default = true) ∨
    ∃ i, i < d.buys.length ∧ D.getD i default = false ∧ (∀ j, j < d.buys.length → D.getD j default = false → LeadB d.buys d.links j i → LeadB d.buys d.links i j) ∧
      (∀ j, j ∈ memM d D ↔ j < d.buys.length ∧ LeadB d.buys d.links i j ∧ LeadB d.buys d.links j i) ∧ (memM d D).length ≤ d.buys.length := by
  have el := leads_len (tab := tableM d.buys d.links) (n := d.buys.length)
  cases hf : (List.range d.buys.length).find? (pickM (leadsM (tableM d.buys d.links) d.buys.length) D d.buys.length) with
  | none =>
    refine .inl ⟨?_, fun i hi => ?_⟩
    · unfold memM nextM
      rw [el, hf]
    · cases z : D.getD i default with
      | true => rfl
      | false =>
        obtain ⟨a, ha, hd, hs⟩ := source (n := d.buys.length) (L := LeadB d.buys d.links) (fun _ => Lead.refl) (fun _ _ _ => Lead.trans) (D := fun k => D.getD k default) d.buys.length i hi z (fun _ _ => cnt_max)
        have := List.find?_range_eq_none.mp hf a ha
        rw [(pick_iff ha).mpr ⟨hd, hs⟩] at this
        cases this
  | some i =>
    obtain ⟨h1, h2, _⟩ := List.find?_range_eq_some.mp hf
    have hi := List.mem_range.mp h2
    obtain ⟨g1, g2⟩ := (pick_iff hi).mp h1
    have e : memM d D = ((List.range d.buys.length).filter fun j => (tg (leadsM (tableM d.buys d.links) d.buys.length) i j).isSome && (tg (leadsM (tableM d.buys d.links) d.buys.length) j i).isSome).map fun j => j := by
      unfold memM nextM
      rw [el, hf]
    refine .inr ⟨i, hi, g1, g2, fun j => ?_, ?_⟩
    · rw [e, List.map_id', List.mem_filter, List.mem_range, Bool.and_eq_true]
      refine and_congr_right fun hj => ?_
      rw [tg_leads hi hj, tg_leads hj hi, lead_some, lead_some]
    · rw [e, List.length_map]
      exact Nat.le_trans (List.length_filter_le _ _) (by simp)
theorem next_lt (d : DataM) (D : List Bool) : (∀ j ∈ memM d D, j < d.buys.length) ∧ (memM d D).length ≤ d.buys.length := by
  rcases next_law d D with ⟨h, _⟩ | ⟨i, _, _, _, h, h'⟩
  · rw [h]; exact ⟨(fun _ z => nomatch z), Nat.zero_le _⟩
  · exact ⟨fun j z => ((h j).mp z).1, h'⟩
theorem Rd.num {d : DataM} {N W : List Rat} {D : List Bool} {r : Nat} (R : Rd d N W D r) (hb : BuysOk d.goods d.buys) (hr : r ≤ 5) : NumOk d (N, W) D (memM d D) :=
  ⟨hb, R.l1, R.l2, R.l3, Nat.le_trans (next_lt d D).2 hb.len, (next_lt d D).1, fun x hx => (R.f1 x hx).mono (Nat.le_trans (bnd_5 hr) (by decide)), fun x hx => (R.f2 x hx).mono (Nat.le_trans (bnd_5 hr) (by decide))⟩
noncomputable abbrev xM (d : DataM) (N W : List Rat) (D : List Bool) : Rat := numM d.buys (N, W) D (memM d D)
theorem Rd.numFit {d : DataM} {N W : List Rat} {D : List Bool} {r : Nat} (R : Rd d N W D r) (hb : BuysOk d.goods d.buys) (hr : r ≤ 5) : FitR (2 * bnd r + 1046) (xM d N W D) := by
  have h := R.num hb hr
  have hp := bnd_pos r
  unfold xM numM
  cases e : bestM d.buys (N, W) D (memM d D) D.length with
  | none => exact fit_zero (by omega)
  | some b =>
    obtain ⟨k, hk, _, hb'⟩ := best_law.2 b e
    have hk : k < d.buys.length := by have := R.l3; omega
    have fN := R.f1.getD (k := k) (by rw [R.l1]; exact hk)
    have fW := R.f2.getD (k := k) (by rw [R.l2]; exact hk)
    have fb : FitR (2 * bnd r + 1044) b := by
      rcases List.mem_append.mp hb' with z | z
      · rw [List.mem_singleton.mp z]
        exact fN.mono (by omega)
      · obtain ⟨j, hj, rfl⟩ := List.mem_map.mp z
        exact fN.add (fW.mul (hb.gap hk (hb.bas (h.ms j hj))) (Nat.le_refl _)) (by omega)
    exact fb.sub (fit_one (show 0 < 1 by decide)) (by omega)
theorem mem_ne {d : DataM} {N W : List Rat} {D : List Bool} {r : Nat} (R : Rd d N W D r) {j k : Nat} (hj : j ∈ memM d D) (hk : k < d.buys.length) (hd : D.getD k default = true) : 0 < gapF d.buys j k := by
  rcases next_law d D with ⟨h, _⟩ | ⟨i, hi, hdi, _, h, _⟩
  · rw [h] at hj; cases hj
  · obtain ⟨hj1, hj2, hj3⟩ := (h j).mp hj
    refine gap_pos (ls := d.links) hj1 hk fun z => ?_
    have := R.af.clo i k hi hk hd (hj2.trans z)
    rw [hdi] at this
    cases this
theorem Rd.wei {d : DataM} {N W : List Rat} {D : List Bool} {r : Nat} (R : Rd d N W D r) (hb : BuysOk d.goods d.buys) (hr : r ≤ 5) {j : Nat} (hj : j ∈ memM d D) : WeiOk d N D (xM d N W D) j :=
  ⟨hb, R.l1, R.l3, (next_lt d D).1 j hj, (R.num hb hr).f1, (R.numFit hb hr).mono (by have := bnd_5 hr; omega), fun k hk hd => Rat.ne_of_gt (mem_ne R hj hk hd)⟩
theorem Rd.weiFit {d : DataM} {N W : List Rat} {D : List Bool} {r : Nat} (R : Rd d N W D r) (hb : BuysOk d.goods d.buys) (hr : r ≤ 5) {j : Nat} (hj : j ∈ memM d D) : FitR (bnd (r + 1)) (maxW d.buys N D (xM d N W D) j D.length) := by
  have h := R.wei hb hr hj
  show FitR (3 * bnd r + 2090) _
  rcases (maxW_law (bs := d.buys) (N := N) (D := D) (x := xM d N W D) (j := j) (n := D.length)).2.2 with z | ⟨k, hk, hd, z⟩
  · rw [z]
    exact fit_one (by omega)
  · rw [z]
    have hk : k < d.buys.length := by have := R.l3; omega
    exact FitR.div (FitR.sub (R.f1.getD (by rw [R.l1]; exact hk)) (R.numFit hb hr) (show bnd r + (2 * bnd r + 1046) < 3 * bnd r + 1047 by omega)) (hb.gap h.hj (hb.bas hk)) (h.ne k hk hd) (by omega)
noncomputable abbrev nN (d : DataM) (N W : List Rat) (D : List Bool) : List Rat := setAll N (memM d D) fun _ => xM d N W D
noncomputable abbrev nW (d : DataM) (N W : List Rat) (D : List Bool) : List Rat := setAll W (memM d D) fun j => maxW d.buys N D (xM d N W D) j D.length
noncomputable abbrev nD (d : DataM) (D : List Bool) : List Bool := setAll D (memM d D) fun _ => true
/-- a round keeps what holds -/
theorem Rd.next {d : DataM} {N W : List Rat} {D : List Bool} {r : Nat} (R : Rd d N W D r) (hb : BuysOk d.goods d.buys) (hR : NoRing d.buys d.links) (hr : r < 5) (hn : r < d.buys.length) : Rd d (nN d N W D) (nW d N W D) (nD d D) (r + 1) := by
  have e1 : ∀ j, j < d.buys.length → (nN d N W D).getD j default = if j ∈ memM d D then xM d N W D else N.getD j default := fun j hj => setAll_get (by rw [R.l1]; exact hj)
  have e2 : ∀ j, j < d.buys.length → (nW d N W D).getD j default = if j ∈ memM d D then maxW d.buys N D (xM d N W D) j D.length else W.getD j default := fun j hj => setAll_get (by rw [R.l2]; exact hj)
  have e3 : ∀ j, j < d.buys.length → (nD d D).getD j default = if j ∈ memM d D then true else D.getD j default := fun j hj => setAll_get (by rw [R.l3]; exact hj)
  have hp : bnd r ≤ bnd (r + 1) := bnd_mono (by omega)
  have f1 : FitL (bnd (r + 1)) (nN d N W D) := setAll_fit (fun x hx => (R.f1 x hx).mono hp) fun j hj => (R.numFit hb (by omega)).mono (by show 2 * bnd r + 1046 ≤ 3 * bnd r + 2090; omega)
  have f2 : FitL (bnd (r + 1)) (nW d N W D) := setAll_fit (fun x hx => (R.f2 x hx).mono hp) fun j hj => R.weiFit hb (by omega) hj
  refine ⟨by rw [setAll_len]; exact R.l1, by rw [setAll_len]; exact R.l2, by rw [setAll_len]; exact R.l3, ?_, ?_, f1, f2⟩
  · rcases next_law d D with ⟨h, _⟩ | ⟨i, hi, hdi, hs, h, _⟩
    · refine R.af.congr (fun j hj => ?_) (fun j hj => ?_) fun j hj => ?_
      · rw [e1 j hj, h, if_neg (by simp)]
      · rw [e2 j hj, h, if_neg (by simp)]
      · rw [e3 j hj, h, if_neg (by simp)]
    · have A := R.af.add (fun _ _ _ => Lead.trans) (fun i j hi hj z => gap_pos hi hj z) (fun i j hi hj _ z => gap_nn hR hi hj z) hi hdi hs (M := fun j => decide (j ∈ memM d D)) (fun j hj => by
        rw [decide_eq_true_iff, h j]
        exact and_iff_right hj) (x := xM d N W D) (v := fun j => maxW d.buys N D (xM d N W D) j D.length) (fun k hk hd => ?_) (fun m hm hM => ?_)
      · refine A.congr (fun j hj => ?_) (fun j hj => ?_) fun j hj => ?_
        · rw [e1 j hj]
          simp only [decide_eq_true_iff]
        · rw [e2 j hj]
          simp only [decide_eq_true_iff]
        · rw [e3 j hj]
          by_cases z : j ∈ memM d D <;> simp [z]
      · have hv := (best_law (bs := d.buys) (t := (N, W)) (D := D) (ms := memM d D) (n := D.length)).1 k (by rw [R.l3]; exact hk) hd
        have key : ∀ v ∈ valsM d.buys (N, W) (memM d D) k, xM d N W D + 1 ≤ v := fun v hv' => by
          obtain ⟨b, q1, q2⟩ := hv v hv'
          have : xM d N W D = b - 1 := by
            unfold xM numM
            rw [q1]
          rw [this]
          grind
        exact ⟨key _ (List.mem_append_left _ (List.mem_singleton.mpr rfl)), fun m hm hM => key _ (List.mem_append_right _ (List.mem_map.mpr ⟨m, of_decide_eq_true hM, rfl⟩))⟩
      · obtain ⟨g1, g2, _⟩ := maxW_law (bs := d.buys) (N := N) (D := D) (x := xM d N W D) (j := m) (n := D.length)
        exact ⟨g1, fun k hk hd => g2 k (by rw [R.l3]; exact hk) hd⟩
  · rcases next_law d D with ⟨h, hall⟩ | ⟨i, hi, hdi, hs, h, _⟩
    · refine Nat.le_trans hn (cnt_all fun k hk => ?_)
      rw [e3 k hk, h, if_neg (by simp)]
      exact hall k hk
    · refine Nat.lt_of_le_of_lt R.c (cnt_lt (x := i) (fun k hk hd => ?_) hi ?_ hdi)
      · rw [e3 k hk]
        split
        · rfl
        · exact hd
      · rw [e3 i hi, if_pos ((h i).mpr ⟨hi, Lead.refl, Lead.refl⟩)]
theorem Rd.start {d : DataM} : Rd d ((List.range d.buys.length).map fun _ => (0 : Rat)) ((List.range d.buys.length).map fun _ => (1 : Rat)) ((List.range d.buys.length).map fun _ => false) 0 where
  l1 := by simp
  l2 := by simp
  l3 := by simp
  af := AF.start fun i hi => by simp [List.getD_eq_getElem?_getD, List.getElem?_map, List.getElem?_range hi]
  c := Nat.zero_le _
  f1 := fun x hx => by
    obtain ⟨_, _, rfl⟩ := List.mem_map.mp hx
    exact fit_zero (by decide)
  f2 := fun x hx => by
    obtain ⟨_, _, rfl⟩ := List.mem_map.mp hx
    exact fit_one (by decide)
/-- what check tells is accepted -/
structure Told (d : DataM) (t : List Rat × List Rat) : Prop where
  ok : judgeM d t = true
  l1 : t.1.length = d.buys.length
  l2 : t.2.length = d.buys.length
  f1 : FitL 300000 t.1
  f2 : FitL 300000 t.2
theorem Rd.told {d : DataM} {N W : List Rat} {D : List Bool} (R : Rd d N W D d.buys.length) (hl : LinksOk d.buys.length d.links) (hR : NoRing d.buys d.links) (h5 : d.buys.length ≤ 5) : Told d (N, W) :=
  ⟨R.af.judge hR hl R.l1 R.l2 (cnt_full R.c), R.l1, R.l2, fun x hx => (R.f1 x hx).mono (bnd_5 h5), fun x hx => (R.f2 x hx).mono (bnd_5 h5)⟩
end
end BB

/-! make_taste, check -/
namespace BB
open PySem PySem.Spec L2
variable {P : Program} {w : World} {K : KF} {mg : Str → Option Value} {base : Heap} {aZ aO : Addr}
structure MakeOk (d : DataM) : Prop where
  ok : DOk d
  h5 : d.buys.length ≤ 5
abbrev sp_make_taste := spR (A := DataM × Tab) (fun a => [dyn a.1, dyn a.2]) (fun a => MakeOk a.1 ∧ NoRing a.1.buys a.1.links ∧ a.2 = leadsM (tableM a.1.buys a.1.links) a.1.buys.length) (fun a => RetP fun t : List Rat × List Rat => Told a.1 t)
theorem getD_map {α β : Type} [Inhabited α] [Inhabited β] {l : List α} {f : α → β} {k : Nat} (h : k < l.length) : (l.map f).getD k default = f (l.getD k default) := by
  simp [List.getD_eq_getElem?_getD, List.getElem?_map, List.getElem?_eq_getElem h]
theorem mem_getD {α : Type} [Inhabited α] {l : List α} {k : Nat} (h : k < l.length) : l.getD k default ∈ l := by
  rw [List.getD_eq_getElem?_getD, List.getElem?_eq_getElem h]
  exact List.getElem_mem h
theorem get_getD {α : Type} [Inhabited α] {l : List α} {k : Nat} (h : k < l.length) : l[k]? = some (l.getD k default) := by
  rw [List.getD_eq_getElem?_getD, List.getElem?_eq_getElem h]
  rfl
theorem setAll_take {α : Type} {l : List α} {ms : List Nat} {f : Nat → α} {k : Nat} (h : k < ms.length) : setAll l (ms.take (k + 1)) f = (setAll l (ms.take k) f).set (ms.getD k default) (f (ms.getD k default)) := foldl_take (get_getD h)
theorem ok_make_taste {f : Addr} {fd : FuncData} (F : Fun K "make_taste" "make_taste" s_make_taste f fd) (B : Bi P mg base) (Z : Zc K mg aZ aO) (Cnext_class : Cal P w K mg base 40 "next_class" ["table", "done"] (sp_next_class K)) (Cclass_number : Cal P w K mg base 45 "class_number" ["data", "taste", "done", "members"] (sp_class_number K)) (Cmember_weight : Cal P w K mg base 44 "member_weight" ["data", "numbers", "done", "number", "j"] (sp_member_weight K)) : FnOk P w K mg base CX0 46 f fd ["data", "table"] (sp_make_taste K) :=
  fn_st F sc_make_taste (fun _ => rfl) fun cdv A' outer s H E hr => ⟨_,
(pss_cons (ps_set (i := 2) sc_make_taste.nd rfl (.inl rfl) (pe_callB call_len_seq (by rfl) B.len PySem.boot_len (pa_cons (pv 1) pa_nil)))
(pss_cons (ps_set (i := 4) sc_make_taste.nd rfl (.inr rfl) (pe_lc (own := [("k", 3)]) (g := gName 3) (tt := tYes) rfl sc_make_taste.nd (pi_range1 (by rfl) B.range (pa_cons (pv 2) pa_nil)) (blkOk_by (N := N_make_taste) (sc := defScope s_make_taste) (by decide +kernel)) (fun _ _ _ _ _ => (pg_name (i := 3) sc_make_taste.nd rfl (.inl rfl))) (fun _ _ _ _ _ => pts_nil) (fun _ _ _ _ _ => (pe_glob (v := .ref aZ) (by rfl) Z.zero rfl))))
(pss_cons (ps_setLc (i := 5) (own := [("k", 3)]) (g := gName 3) (tt := tYes) rfl sc_make_taste.nd rfl rfl (sw_true rfl rfl rfl (by decide +kernel)) (pi_range1 (by rfl) B.range (pa_cons (pv 2) pa_nil)) (blkOk_by (N := N_make_taste) (sc := defScope s_make_taste) (by decide +kernel)) (fun _ _ _ _ _ => (pg_name (i := 3) sc_make_taste.nd rfl (.inl rfl))) (fun _ _ _ _ _ => pts_nil) (fun _ _ _ _ _ => (pe_glob (v := .ref aO) (by rfl) Z.one rfl)))
(pss_cons (ps_set (i := 6) sc_make_taste.nd rfl (.inr rfl) (pe_lc (own := [("k", 3)]) (g := gName 3) (tt := tYes) rfl sc_make_taste.nd (pi_range1 (by rfl) B.range (pa_cons (pv 2) pa_nil)) (blkOk_by (N := N_make_taste) (sc := defScope s_make_taste) (by decide +kernel)) (fun _ _ _ _ _ => (pg_name (i := 3) sc_make_taste.nd rfl (.inl rfl))) (fun _ _ _ _ _ => pts_nil) (fun _ _ _ _ _ => pe_bl)))
(pss_cons (ps_for PassesOwn.never rfl (pi_range1 (by rfl) B.range (pa_cons (pv 2) pa_nil)) (pg_name (i := 7) sc_make_taste.nd rfl (.inl rfl))
(pss_cons (ps_set (i := 8) sc_make_taste.nd rfl (.inl rfl) (pe_cal Cnext_class (hr.mono (by decide)) (by rfl) (pa_cons (pv 1) (pa_cons (pv 6) pa_nil))))
(pss_cons (ps_set (i := 9) sc_make_taste.nd rfl (.inr rfl) (pe_cal Cclass_number (hr.mono (by decide)) (by rfl) (pa_cons (pv 0) (pa_cons (pe_tup (pa_cons (pv 4) (pa_cons (pv 5) pa_nil))) (pa_cons (pv 6) (pa_cons (pv 8) pa_nil))))))
(pss_cons (ps_setLc (i := 10) (own := [("j", 11)]) (g := gName 11) (tt := tYes) rfl sc_make_taste.nd rfl rfl (sw_true rfl rfl rfl (by decide +kernel)) (pi_list (pv 8)) (blkOk_by (N := N_make_taste) (sc := defScope s_make_taste) (by decide +kernel)) (fun _ _ _ _ _ => (pg_name (i := 11) sc_make_taste.nd rfl (.inl rfl))) (fun _ _ _ _ _ => pts_nil) (fun _ _ _ _ _ => (pe_cal Cmember_weight (hr.mono (by decide)) (by rfl) (pa_cons (pv 0) (pa_cons (pv 4) (pa_cons (pv 6) (pa_cons (pv 9) (pa_cons (pv 11) pa_nil))))))))
(pss_one (ps_for PassesOwn.never rfl (pi_range1 (by rfl) B.range (pa_cons (pe_callB call_len_seq (by rfl) B.len PySem.boot_len (pa_cons (pv 8) pa_nil)) pa_nil)) (pg_name (i := 3) sc_make_taste.nd rfl (.inl rfl))
(pss_cons (ps_asg (pv 9) (pg_sub (pv 4) (pe_ix ix_list (pv 8) (pv 3) (fun _ _ => rfl)) set_list))
(pss_cons (ps_asg (pe_ix ix_list (pv 10) (pv 3) (fun _ _ => rfl)) (pg_sub (pv 5) (pe_ix ix_list (pv 8) (pv 3) (fun _ _ => rfl)) set_list))
(pss_one (ps_asg pe_bl (pg_sub (pv 6) (pe_ix ix_list (pv 8) (pv 3) (fun _ _ => rfl)) set_list)))))))))))
(pss_one (ps_ret (pe_tup (pa_cons (pv 4) (pa_cons (pv 5) pa_nil)))))))))), 
fun ⟨d, T⟩ hp => by
    show StD K [pureS d, pureS T, none, none, none, none, none, none, none, none, none, none] _ _
    obtain ⟨⟨hd, h5⟩, hR, hT⟩ : MakeOk d ∧ NoRing d.buys d.links ∧ T = leadsM (tableM d.buys d.links) d.buys.length := hp
    have hTl : T.length = d.buys.length := by rw [hT, leads_len]
    have hTs : Sq T.length T := by rw [hT]; exact leads_sq
    have hn : ∀ D, nextM T D = memM d D := fun D => by rw [hT]
    refine st_seq (st_set (x := d.buys.length) ((len_of (EvD.l (evd_var rfl))).to hTl) ?_)
    refine st_seq (st_own (evn_lcR0 (fun k => (0 : Rat)) (evd_var rfl) (by omega) (by decide) (fun k hk => (evd_const Z.zt))) ?_)
    refine st_seq (st_own (evn_lcR0 (fun k => (1 : Rat)) (evd_var rfl) (by omega) (by decide) (fun k hk => (evd_const Z.ot))) ?_)
    refine st_seq (st_own (evn_lcR0 (fun k => false) (evd_var rfl) (by omega) (by decide) (fun k hk => evd_bl)) ?_)
    refine st_seq (st_forR (fun r G' => ∃ s3 s7 s8 s9 s10 N W D, G' = [pureS d, pureS T, pureS d.buys.length, s3, ownS N, ownS W, ownS D, s7, s8, s9, s10, none] ∧ Rd d N W D r) (evd_var rfl) (by omega) ⟨_, _, _, _, _, _, _, _, rfl, Rd.start⟩ (fun r G' hr hI => ?_) fun G' hI => ?_)
    · obtain ⟨s3, s7, s8, s9, s10, N, W, D, rfl, R⟩ := hI
      have hb := hd.buys
      have hml := next_lt d D
      refine st_seq (st_set (x := memM d D) (EvN.d (evn_lend (.slot lend_pure (.slot lend_pure (.none (.none (.none (.none (.slot lend_own (.none (.none (.none (.none (.none .nil)))))))))))) ((evn_call (T, D) (eva_cons (evd_var rfl) (eva_cons (evd_var rfl) eva_nil)) ⟨by show T.length ≤ 8; omega, hTs, by show D.length = T.length; rw [R.l3, hTl]⟩).to (hn D)))) ?_)
      refine st_seq (st_set (x := xM d N W D) (evd_lend (.slot lend_pure (.none (.none (.none (.slot lend_own (.slot lend_own (.slot lend_own (.none (.slot lend_pure (.none (.none (.none .nil)))))))))))) (evd_call4 (evd_var (x := d) rfl) (evd_tup2 (evd_var (x := N) rfl) (evd_var (x := W) rfl)) (evd_var (x := D) rfl) (evd_var (x := memM d D) rfl) (R.num hb (by omega)))) ?_)
      refine st_seq (st_set (x := (memM d D).map fun j => maxW d.buys N D (xM d N W D) j D.length) (EvN.d (evn_lcL0 (fun j => maxW d.buys N D (xM d N W D) j D.length) (EvD.l (evd_var (x := memM d D) rfl)) (by omega) (by decide) (fun i j hj => ?_))) ?_)
      · exact evd_lend (.slot lend_pure (.none (.none (.none (.slot lend_own (.none (.slot lend_own (.none (.none (.slot lend_pure (.none (.slot lend_pure .nil)))))))))))) (evd_call5 (evd_var (x := d) rfl) (evd_var (x := N) rfl) (evd_var (x := D) rfl) (evd_var (x := xM d N W D) rfl) (evd_var (x := j) rfl) (R.wei hb (by omega) (List.mem_of_getElem? hj)))
      · refine st_forR (fun k G' => ∃ s3, G' = [pureS d, pureS T, pureS d.buys.length, s3, ownS (setAll N ((memM d D).take k) fun _ => xM d N W D), ownS (setAll W ((memM d D).take k) fun j => maxW d.buys N D (xM d N W D) j D.length), ownS (setAll D ((memM d D).take k) fun _ => true), pureS r, pureS (memM d D), pureS (xM d N W D), pureS ((memM d D).map fun j => maxW d.buys N D (xM d N W D) j D.length), none])
          (len_of (EvD.l (evd_var (x := memM d D) rfl))) (by omega) ⟨_, rfl⟩ (fun k G' hk hJ => ?_) fun G' hJ => ?_
        · obtain ⟨s3, rfl⟩ := hJ
          have hk8 : (memM d D).getD k default < d.buys.length := hml.1 _ (mem_getD hk)
          refine st_seq (st_put (k := (memM d D).getD k default) rfl (evd_var (x := xM d N W D) rfl) (evd_ix (EvD.l (evd_var (x := memM d D) rfl)) (evd_var (x := k) rfl) hk) (by rw [setAll_len, R.l1]; exact hk8) ?_)
          refine st_seq (st_put (k := (memM d D).getD k default) rfl (evd_ix (EvD.l (evd_var (x := (memM d D).map fun j => maxW d.buys N D (xM d N W D) j D.length) rfl)) (evd_var (x := k) rfl) (by rw [List.length_map]; exact hk)) (evd_ix (EvD.l (evd_var (x := memM d D) rfl)) (evd_var (x := k) rfl) hk) (by rw [setAll_len, R.l2]; exact hk8) ?_)
          refine st_put (k := (memM d D).getD k default) rfl evd_bl (evd_ix (EvD.l (evd_var (x := memM d D) rfl)) (evd_var (x := k) rfl) hk) (by rw [setAll_len, R.l3]; exact hk8) ⟨pureS k, ?_⟩
          rw [getD_map hk, setAll_take hk, setAll_take hk, setAll_take hk]
          rfl
        · obtain ⟨s3, rfl⟩ := hJ
          rw [List.take_length]
          exact ⟨_, _, _, _, _, _, _, _, rfl, R.next hb hR (by omega) hr⟩
    · obtain ⟨s3, s7, s8, s9, s10, N, W, D, rfl, R⟩ := hI
      refine st_freeze 4 rfl (st_freeze 5 rfl ?_)
      exact st_retP (EvD.p (R := fun t => t = (N, W)) (evd_tup2 (evd_var rfl) (evd_var rfl)) rfl) rfl (fun t ht => by
        rw [ht]
        exact R.told hd.links hR h5)
⟩
end BB

/-! check -/
namespace BB
open PySem PySem.Spec L2
variable {P : Program} {w : World} {K : KF} {mg : Str → Option Value} {base : Heap} {aZ aO : Addr}
/-- what check hands back -/
inductive Found
  | ring (c : List Nat)
  | taste (t : List Rat × List Rat)
def Found.rep (K : KF) (H : Hp) (v : V) : Found → Prop
  | .ring c => Rep.rep K H v ((("ring" : Str), c) : Str × List Nat)
  | .taste t => Rep.rep K H v ((("taste" : Str), t) : Str × (List Rat × List Rat))
instance : Rep Found := ⟨Found.rep, fun {K H H' v x} e h => match x, h with
  | .ring c, h => Rep.mono (α := Str × List Nat) e h
  | .taste t, h => Rep.mono (α := Str × (List Rat × List Rat)) e h⟩
def Chk (d : DataM) : Found → Prop
  | .ring c => (∃ i, i < d.buys.length ∧ CF (tableM d.buys d.links) d.buys.length i c i true) ∧ c.length ≤ 2 * d.buys.length
  | .taste t => NoRing d.buys d.links ∧ Told d t
abbrev sp_check := spR (A := DataM) (fun a => [dyn a]) MakeOk (fun d => RetP (Chk d))
theorem st_retG {α β : Type} [Rep α] [Rep β] {G : GEnv} {te : TE} {D : Post} {R : α → Prop} {S : β → Prop} (h : EvP K G te R) (hD : D.rt = RetP S) (g : α → β) (hg : ∀ H v x, R x → Rep.rep K H v x → Rep.rep K H v (g x)) (f : ∀ x, R x → S (g x)) : StD K G (tRet te) D := fun Hs0 H0 Hs H σ E e g0 De p =>
  h H0 Hs H σ E e _ fun v x Hs1 H1 g1 hR r1 => p.rt v Hs1 H1 (g0.trans g1) (by rw [hD]; exact ⟨g x, hg _ v x hR r1, f x hR⟩)
theorem ok_check {f : Addr} {fd : FuncData} (F : Fun K "check" "check" s_check f fd) (B : Bi P mg base) (Cleads : Cal P w K mg base 46 "leads" ["data"] (sp_leads K)) (Cfind_chain : Cal P w K mg base 46 "find_chain" ["data", "i", "j"] (sp_find_chain K)) (Cmake_taste : Cal P w K mg base 46 "make_taste" ["data", "table"] (sp_make_taste K)) : FnOk P w K mg base CX0 47 f fd ["data"] (sp_check K) :=
  fn_st F sc_check (fun _ => rfl) fun cdv A' outer s H E hr => ⟨_,
(pss_cons (ps_set (i := 1) sc_check.nd rfl (.inl rfl) (pe_cal Cleads (hr.mono (by decide)) (by rfl) (pa_cons (pv 0) pa_nil)))
(pss_cons (ps_for PassesOwn.never rfl (pi_range1 (by rfl) B.range (pa_cons (pe_callB call_len_seq (by rfl) B.len PySem.boot_len (pa_cons (pv 1) pa_nil)) pa_nil)) (pg_name (i := 2) sc_check.nd rfl (.inl rfl))
(pss_one (ps_if (pt_cmpR op_isT (pe_ix ix_list (pe_ix ix_list (pv 1) (pv 2) (fun _ _ => rfl)) (pv 2) (fun _ _ => rfl)) pe_bl (nomark _))
(pss_one (ps_ret (pe_tup (pa_cons pe_str (pa_cons (pe_cal Cfind_chain (hr.mono (by decide)) (by rfl) (pa_cons (pv 0) (pa_cons (pv 2) (pa_cons (pv 2) pa_nil)))) pa_nil)))))
pss_nil)))
(pss_one (ps_ret (pe_tup (pa_cons pe_str (pa_cons (pe_cal Cmake_taste (hr.mono (by decide)) (by rfl) (pa_cons (pv 0) (pa_cons (pv 1) pa_nil))) pa_nil))))))), 
fun d hp => by
    show StD K [pureS d, none, none] _ _
    have hp : MakeOk d := hp
    have hb := hp.ok.buys
    have h5 := hp.h5
    refine st_seq (st_set (x := leadsM (tableM d.buys d.links) d.buys.length) (evd_call1 (evd_var rfl) hb) ?_)
    refine st_seq (st_forR (fun i G' => (∃ s2, G' = [pureS d, pureS (leadsM (tableM d.buys d.links) d.buys.length), s2]) ∧ ∀ k, k < i → ¬ Reach (tableM d.buys d.links) d.buys.length k k true) ((len_of (EvD.l (evd_var rfl))).to leads_len) (by omega) ⟨⟨_, rfl⟩, fun k hk => absurd hk (Nat.not_lt_zero _)⟩ (fun i G' hi hI => ?_) fun G' hI => ?_)
    · obtain ⟨⟨s2, rfl⟩, hI⟩ := hI
      have e1 := tg_leads (tab := tableM d.buys d.links) hi hi
      refine st_if (b := decide (tg (leadsM (tableM d.buys d.links) d.buys.length) i i = some true)) (evb_test (evd_isT (evd_ix (EvD.l (evd_ix (EvD.l (evd_var rfl)) (evd_var rfl) (by rw [leads_len]; exact hi))) (evd_var rfl) (by rw [leads_sq.at (by rw [leads_len]; exact hi), leads_len]; exact hi)))) (fun h => ?_) (fun h => ?_)
      · have h := of_decide_eq_true h
        rw [e1] at h
        have hr := lead_true.mp h
        refine st_retG (evp_snd evd_str (evp_call (d, i, i) (eva_cons (evd_var rfl) (eva_cons (evd_var rfl) (eva_cons (evd_var rfl) eva_nil))) ⟨hb, hi, hr⟩)) rfl (fun p => Found.ring p.2) (fun H v x hx r => ?_) (fun x hx => ?_)
        · obtain ⟨x1, x2⟩ := x
          have hx1 : x1 = "ring" := hx.1
          subst hx1
          exact r
        · exact ⟨⟨i, hi, hx.2.1⟩, hx.2.2⟩
      · have h := of_decide_eq_false h
        rw [e1] at h
        refine st_next ⟨⟨_, rfl⟩, fun k hk => ?_⟩
        rcases Nat.lt_succ_iff_lt_or_eq.mp hk with z | z
        · exact hI k z
        · subst z
          exact fun y => h (lead_true.mpr y)
    · obtain ⟨⟨s2, rfl⟩, hI⟩ := hI
      have hR : NoRing d.buys d.links := hI
      refine st_retG (evp_snd evd_str (evp_call (d, leadsM (tableM d.buys d.links) d.buys.length) (eva_cons (evd_var rfl) (eva_cons (evd_var rfl) eva_nil)) ⟨hp, hR, rfl⟩)) rfl (fun p => Found.taste p.2) (fun H v x hx r => ?_) (fun x hx => ?_)
      · obtain ⟨x1, x2⟩ := x
        have hx1 : x1 = "taste" := hx.1
        subst hx1
        exact r
      · exact ⟨hR, hx.2⟩
⟩
end BB

/-! the law's numbers -/
namespace BB
open PySem PySem.Spec L2
variable {P : Program} {w : World} {K : KF} {mg : Str → Option Value} {base : Heap} {aZ aO : Addr}
abbrev s__law_is_integer : Stmt := topS 35
abbrev N__law_is_integer : List Str := ["_law_x"]
theorem sc__law_is_integer : FnScope N__law_is_integer ["_law_x"] (defScope s__law_is_integer) := ⟨rfl, rfl, rfl, by decide +kernel, rfl, by decide +kernel, by decide +kernel⟩

abbrev s__law_row : Stmt := topS 36
abbrev N__law_row : List Str := ["_law_script", "_law_place", "_law_many", "_law_cell", "_law_rest", "_law_row_here", "_law_k", "_law_mixed"]
theorem sc__law_row : FnScope N__law_row ["_law_script", "_law_place", "_law_many"] (defScope s__law_row) := ⟨rfl, rfl, rfl, by decide +kernel, rfl, by decide +kernel, by decide +kernel⟩

abbrev s__law_long : Stmt := topS 37
abbrev N__law_long : List Str := ["_law_row_here", "_law_start", "_law_many", "_law_number", "_law_k"]
theorem sc__law_long : FnScope N__law_long ["_law_row_here", "_law_start", "_law_many"] (defScope s__law_long) := ⟨rfl, rfl, rfl, by decide +kernel, rfl, by decide +kernel, by decide +kernel⟩

abbrev s__law_gcd : Stmt := topS 38
abbrev N__law_gcd : List Str := ["_law_a", "_law_b", "_law_k"]
theorem sc__law_gcd : FnScope N__law_gcd ["_law_a", "_law_b"] (defScope s__law_gcd) := ⟨rfl, rfl, rfl, by decide +kernel, rfl, by decide +kernel, by decide +kernel⟩

abbrev s__law_lowest : Stmt := topS 39
abbrev N__law_lowest : List Str := ["_law_p", "_law_q", "_law_common"]
theorem sc__law_lowest : FnScope N__law_lowest ["_law_p", "_law_q"] (defScope s__law_lowest) := ⟨rfl, rfl, rfl, by decide +kernel, rfl, by decide +kernel, by decide +kernel⟩

abbrev s__law_is_fraction : Stmt := topS 40
abbrev N__law_is_fraction : List Str := ["_law_x"]
theorem sc__law_is_fraction : FnScope N__law_is_fraction ["_law_x"] (defScope s__law_is_fraction) := ⟨rfl, rfl, rfl, by decide +kernel, rfl, by decide +kernel, by decide +kernel⟩

abbrev s__law_are_fractions : Stmt := topS 41
abbrev N__law_are_fractions : List Str := ["_law_xs", "_law_many", "_law_x"]
theorem sc__law_are_fractions : FnScope N__law_are_fractions ["_law_xs", "_law_many"] (defScope s__law_are_fractions) := ⟨rfl, rfl, rfl, by decide +kernel, rfl, by decide +kernel, by decide +kernel⟩

abbrev sp__law_is_integer := sp1 (fun (_ : Int) => True) (fun _ => true)
theorem ok__law_is_integer {f : Addr} {fd : FuncData} (F : Fun K "_law_is_integer" "_law_is_integer" s__law_is_integer f fd) (B : Bi P mg base) : FnOk P w K mg base CX0 40 f fd ["_law_x"] (sp__law_is_integer K) :=
  fn_st F sc__law_is_integer (fun _ => rfl) fun cdv A' outer s H E hr => ⟨_,
(pss_one (ps_ret (pe_and (pe_callB call_isi (by rfl) B.isinstance (by decide +kernel) (pa_cons (pv 0) (pa_cons (pe_bltn (v := .ty "int") (by rfl) B.int (by decide +kernel) rfl) pa_nil))) (pe_one (pe_not (pe_callB call_isi (by rfl) B.isinstance (by decide +kernel) (pa_cons (pv 0) (pa_cons (pe_bltn (v := .ty "bool") (by rfl) B.bool (by decide +kernel) rfl) pa_nil)))))))), 
fun x hp => by
    show StD K [pureS x] _ _
    refine st_ret (evd_andV (evd_isi (b := true) (evd_var rfl) ty_int rfl) fun z => (evd_notV (evd_isi (b := false) (evd_var rfl) ty_int rfl))) rfl rfl
⟩
def longM (r : List Int) (s n : Nat) : Int := iter n (fun k t => t * 1000 + r.getD (s + k) default) 0
def Digs (r : List Int) : Prop := ∀ x ∈ r, 0 ≤ x ∧ x ≤ 999
theorem Digs.at {r : List Int} {k : Nat} (h : Digs r) (hk : k < r.length) : 0 ≤ r.getD k default ∧ r.getD k default ≤ 999 := h _ (mem_getD hk)
theorem long_law {r : List Int} {s : Nat} (h : Digs r) : ∀ {n : Nat}, s + n ≤ r.length → 0 ≤ longM r s n ∧ longM r s n < 1000 ^ n
  | 0, _ => ⟨Int.le_refl 0, by show (0 : Int) < 1000 ^ 0; decide⟩
  | n + 1, hn => by
    obtain ⟨h1, h2⟩ := long_law h (n := n) (s := s) (by omega)
    obtain ⟨g1, g2⟩ := h.at (k := s + n) (by omega)
    have e : longM r s (n + 1) = longM r s n * 1000 + r.getD (s + n) default := rfl
    rw [e, Int.pow_succ]
    omega
structure LongOk (r : List Int) (s n : Nat) : Prop where
  d : Digs r
  l : s + n ≤ r.length
  n4 : n ≤ 4
theorem long_fit {r : List Int} {s n : Nat} (h : LongOk r s n) : 0 ≤ longM r s n ∧ longM r s n < 10 ^ 12 := by
  obtain ⟨h1, h2⟩ := long_law h.d h.l
  have h4 := h.n4
  refine ⟨h1, Int.lt_of_lt_of_le h2 ?_⟩
  match n, h4 with
  | 0, _ => decide
  | 1, _ => decide
  | 2, _ => decide
  | 3, _ => decide
  | 4, _ => decide
  | n + 5, h => omega
theorem fit_of {n : Nat} {i : Int} (h0 : 0 ≤ i) (h : i < 2 ^ n) : Fit n i := by
  unfold Fit
  have e : ((2 ^ n : Nat) : Int) = (2 : Int) ^ n := by simp
  omega
abbrev sp__law_long := sp3 LongOk longM
theorem ok__law_long {f : Addr} {fd : FuncData} (F : Fun K "_law_long" "_law_long" s__law_long f fd) (B : Bi P mg base) : FnOk P w K mg base CX0 40 f fd ["_law_row_here", "_law_start", "_law_many"] (sp__law_long K) :=
  fn_st F sc__law_long (fun _ => rfl) fun cdv A' outer s H E hr => ⟨_,
(pss_cons (ps_set (i := 3) sc__law_long.nd rfl (.inl rfl) pe_int)
(pss_cons (ps_for PassesOwn.never rfl (pi_range1 (by rfl) B.range (pa_cons (pv 2) pa_nil)) (pg_name (i := 4) sc__law_long.nd rfl (.inl rfl))
(pss_one (ps_set (i := 3) sc__law_long.nd rfl (.inl rfl) (pe_op op_add (pe_op op_mulA (pv 3) pe_int) (pe_ix ix_list (pv 0) (pe_op op_add (pv 1) (pv 4)) (fun _ _ => rfl))))))
(pss_one (ps_ret (pv 3))))), 
fun ⟨r, s, n⟩ hp => by
    show StD K [pureS r, pureS s, pureS n, none, none] _ _
    have hp : LongOk r s n := hp
    have h4 := hp.n4
    have hl := hp.l
    refine st_seq (st_set evd_int ?_)
    refine st_seq (st_forR (fun i G' => ∃ s4, G' = [pureS r, pureS s, pureS n, pureS (longM r s i), s4]) (evd_var rfl) (by omega) ⟨_, rfl⟩ (fun i G' hi hI => ?_) fun G' hI => ?_)
    · obtain ⟨s4, rfl⟩ := hI
      have h1 := long_fit (r := r) (s := s) (n := i) ⟨hp.d, by omega, by omega⟩
      exact st_set (evd_add (evd_mul (evd_var (x := longM r s i) rfl) evd_int ((fit_of (n := 64) h1.1 (by omega)).mulOk (fit_small (n := 10000) (by decide)) (by decide))) (evd_ix (i := s + i) (EvD.l (evd_var rfl)) (EvD.nat (evd_add (EvD.int (evd_var (x := s) rfl)) (EvD.int (evd_var (x := i) rfl))) (by omega)) (by omega))) ⟨_, rfl⟩
    · obtain ⟨s4, rfl⟩ := hI
      exact st_ret (evd_var rfl) rfl rfl
⟩
/-! ### gcd -/
theorem mod_half {a b : Nat} (hb : 0 < b) (h : b ≤ a) : 2 * (b * (a % b)) ≤ a * b := by
  have h1 := Nat.mod_lt a hb
  have h2 := Nat.mod_add_div a b
  have h3 : 1 ≤ a / b := Nat.div_pos h hb
  have h4 : b ≤ b * (a / b) := Nat.le_mul_of_pos_right b h3
  have h5 : 2 * (a % b) ≤ a := by omega
  calc 2 * (b * (a % b)) = b * (2 * (a % b)) := by rw [Nat.mul_left_comm]
    _ ≤ b * a := Nat.mul_le_mul_left b h5
    _ = a * b := Nat.mul_comm b a
/-- between two turns of Euclid -/
def EuI (a b n k a' b' : Nat) : Prop := Nat.gcd a' b' = Nat.gcd a b ∧ (k = 0 ∧ a' = a ∧ b' = b ∨ 0 < k ∧ b' < a' ∧ a' * b' * 2 ^ (k - 1) < 2 ^ (2 * n))
theorem EuI.next {a b n k a' b' : Nat} (h : EuI a b n k a' b') (hb : b < 2 ^ n) (h0 : 0 < b') : EuI a b n (k + 1) b' (a' % b') := by
  obtain ⟨h1, h2⟩ := h
  have hm := Nat.mod_lt a' h0
  refine ⟨by rw [← h1, Nat.gcd_comm, ← Nat.gcd_rec, Nat.gcd_comm], .inr ⟨by omega, hm, ?_⟩⟩
  rcases h2 with ⟨rfl, rfl, rfl⟩ | ⟨hk, hlt, hp⟩
  · rw [show 0 + 1 - 1 = 0 from rfl, Nat.pow_zero, Nat.mul_one, show 2 * n = n + n by omega, Nat.pow_add]
    exact Nat.mul_lt_mul'' hb (by omega)
  · have hh := mod_half h0 (Nat.le_of_lt hlt)
    have e : (2 : Nat) ^ (k + 1 - 1) = 2 * 2 ^ (k - 1) := by
      rw [show k + 1 - 1 = (k - 1) + 1 by omega, Nat.pow_succ, Nat.mul_comm]
    rw [e]
    refine Nat.lt_of_le_of_lt ?_ hp
    calc b' * (a' % b') * (2 * 2 ^ (k - 1)) = 2 * (b' * (a' % b')) * 2 ^ (k - 1) := by rw [← Nat.mul_assoc, Nat.mul_comm (b' * (a' % b')) 2]
      _ ≤ a' * b' * 2 ^ (k - 1) := Nat.mul_le_mul_right _ hh
theorem EuI.end {a b n k a' b' : Nat} (h : EuI a b n k a' b') (hk : 2 * n + 1 ≤ k) : b' = 0 := by
  obtain ⟨_, h2⟩ := h
  rcases h2 with ⟨rfl, _⟩ | ⟨hk', hlt, hp⟩
  · omega
  · rcases Nat.eq_zero_or_pos b' with z | z
    · exact z
    · exfalso
      have h3 : 1 ≤ a' * b' := Nat.mul_pos (by omega) z
      have h4 : 2 ^ (2 * n) ≤ 2 ^ (k - 1) := Nat.pow_le_pow_right (by decide) (by omega)
      have h5 : 1 * 2 ^ (k - 1) ≤ a' * b' * 2 ^ (k - 1) := Nat.mul_le_mul_right _ h3
      omega
abbrev sp__law_gcd := sp2 (fun (_ : Nat) (b : Nat) => Fit 40000000 (b : Int)) (fun a b => Nat.gcd a b)
theorem ok__law_gcd {f : Addr} {fd : FuncData} (F : Fun K "_law_gcd" "_law_gcd" s__law_gcd f fd) (B : Bi P mg base) : FnOk P w K mg base CX0 40 f fd ["_law_a", "_law_b"] (sp__law_gcd K) :=
  fn_st F sc__law_gcd (fun _ => rfl) fun cdv A' outer s H E hr => ⟨_,
(pss_cons (ps_for PassesOwn.never rfl (pi_range1 (by rfl) B.range (pa_cons (pe_op op_add (pe_op op_mulA pe_int (pe_bits (pv 1))) pe_int) pa_nil)) (pg_name (i := 2) sc__law_gcd.nd rfl (.inl rfl))
(pss_cons (ps_if (pt_cmpR op_eq (pv 1) pe_int (nomark _))
(pss_one (ps_ret (pv 0)))
pss_nil)
(pss_one (ps_par (i := 0) (j := 1) (by rfl) sc__law_gcd.nd rfl rfl (by decide) rfl rfl (pa_cons (pv 1) (pa_cons (pe_op op_mod (pe_callTy call_int1 (by rfl) B.int (by decide +kernel) (pa_cons (pv 0) pa_nil)) (pv 1)) pa_nil)) (by rfl)))))
(pss_one (ps_ret (pv 0)))), 
fun ⟨a, b⟩ hp => by
    show StD K [pureS a, pureS b, none] _ _
    have hp : Fit 40000000 (b : Int) := hp
    have hbits := PyProof.Rows.intBits_le hp
    have hb : b < 2 ^ Builtin.Int.intBits (b : Int) := by
      unfold Builtin.Int.intBits
      split
      · have : b = 0 := by simp_all
        rw [this]; exact Nat.two_pow_pos _
      · exact Nat.lt_log2_self
    generalize hn : Builtin.Int.intBits (b : Int) = n at *
    refine st_seq (st_forR (n := 2 * n + 2) (fun k G' => ∃ a' b' s2, G' = [pureS (a' : Nat), pureS (b' : Nat), s2] ∧ EuI a b n k a' b') (EvD.nat (evd_add (evd_mul evd_int (EvD.int ((evd_bits (EvD.int (evd_var (x := b) rfl))).to hn)) ((fit_small (n := 10) (by decide)).mulOk (fit_nat (n := 100) (k := n) (Nat.lt_of_le_of_lt hbits (Nat.lt_of_lt_of_le (show 40000000 < 2 ^ 26 by decide) (Nat.pow_le_pow_right (by decide) (by decide))))) (by decide))) evd_int) (by omega)) (by omega) ⟨a, b, _, rfl, rfl, .inl ⟨rfl, rfl, rfl⟩⟩ (fun k G' hk hI => ?_) fun G' hI => ?_)
    · obtain ⟨a', b', s2, rfl, hI⟩ := hI
      refine st_seq (st_if (evb_test (evd_eqI (EvD.int (evd_var (x := b') rfl)) evd_int)) (fun h => ?_) (fun h => st_next ?_))
      · have h : b' = 0 := by simpa using h
        subst h
        exact st_ret (evd_var (x := a') rfl) rfl (by show a' = Nat.gcd a b; rw [← hI.1]; exact (Nat.gcd_zero_right a').symm)
      · have h : b' ≠ 0 := by simpa using h
        exact st_par (x := b') (y := a' % b') (evd_var (x := b') rfl) (EvD.nat (evd_mod (evd_intc (EvD.int (evd_var (x := a') rfl))) (EvD.int (evd_var (x := b') rfl)) (by omega)) (by simp)) ⟨b', a' % b', _, rfl, hI.next hb (by omega)⟩
    · obtain ⟨a', b', s2, rfl, hI⟩ := hI
      have h0 := hI.end (by omega)
      subst h0
      exact st_ret (evd_var (x := a') rfl) rfl (by show a' = Nat.gcd a b; rw [← hI.1]; exact (Nat.gcd_zero_right a').symm)
⟩
abbrev sp__law_lowest := sp2 (fun (_ : Int) (q : Int) => 0 < q ∧ Fit 40000000 q) (fun p q => Rat.divInt p q)
theorem ok__law_lowest {f : Addr} {fd : FuncData} (F : Fun K "_law_lowest" "_law_lowest" s__law_lowest f fd) (B : Bi P mg base) (C_law_gcd : Cal P w K mg base 40 "_law_gcd" ["_law_a", "_law_b"] (sp__law_gcd K)) : FnOk P w K mg base CX0 41 f fd ["_law_p", "_law_q"] (sp__law_lowest K) :=
  fn_st F sc__law_lowest (fun _ => rfl) fun cdv A' outer s H E hr => ⟨_,
(pss_cons (ps_set (i := 2) sc__law_lowest.nd rfl (.inl rfl) (pe_cal C_law_gcd (hr.mono (by decide)) (by rfl) (pa_cons (pe_callB call_abs (by rfl) B.abs (by decide +kernel) (pa_cons (pv 0) pa_nil)) (pa_cons (pv 1) pa_nil))))
(pss_one (ps_ret (pe_tup (pa_cons (pe_op (op_fdivA B.seer B.tree rfl rfl rfl (room_div hr)) (pv 0) (pv 2)) (pa_cons (pe_op (op_fdivA B.seer B.tree rfl rfl rfl (room_div hr)) (pv 1) (pv 2)) pa_nil)))))), 
fun ⟨p, q⟩ hp => by
    show StD K [pureS p, pureS q, none] _ _
    obtain ⟨hq, hf⟩ : 0 < q ∧ Fit 40000000 q := hp
    have hg := gcd_pos (p := p) hq
    have hf' : Fit 40000000 ((q.natAbs : Nat) : Int) := hf.le (by omega)
    refine st_seq (st_set (evd_call2 (evd_abs (evd_var rfl)) (EvD.nat (n := q.natAbs) (evd_var (x := q) rfl) (by omega)) hf') ?_)
    refine st_ret (y := Rat.divInt p q) (x := Rat.divInt p q) (EvD.rat (evd_tup2 (evd_div (evd_var (x := p) rfl) (EvD.int (evd_var (x := Nat.gcd p.natAbs q.natAbs) rfl)) hg) (evd_div (evd_var (x := q) rfl) (EvD.int (evd_var (x := Nat.gcd p.natAbs q.natAbs) rfl)) hg)) ?_) rfl rfl
    obtain ⟨h1, h2⟩ := divInt_pos (p := p) hq
    rw [h1, h2]
⟩
abbrev sp__law_is_fraction := sp1 (fun (x : Rat) => SmR x) (fun _ => true)
theorem ok__law_is_fraction {f : Addr} {fd : FuncData} (F : Fun K "_law_is_fraction" "_law_is_fraction" s__law_is_fraction f fd) (B : Bi P mg base) (C_law_is_integer : Cal P w K mg base 40 "_law_is_integer" ["_law_x"] (sp__law_is_integer K)) (C_law_gcd : Cal P w K mg base 40 "_law_gcd" ["_law_a", "_law_b"] (sp__law_gcd K)) : FnOk P w K mg base CX0 41 f fd ["_law_x"] (sp__law_is_fraction K) :=
  fn_st F sc__law_is_fraction (fun _ => rfl) fun cdv A' outer s H E hr => ⟨_,
(pss_cons (ps_if (PW.pt (pw_or (pt_not (pt_val (pe_callB call_isi (by rfl) B.isinstance (by decide +kernel) (pa_cons (pv 0) (pa_cons (pe_bltn (v := .ty "tuple") (by rfl) B.tuple (by decide +kernel) rfl) pa_nil))))) (pw_or1 (pt_cmpR op_ne (pe_callB call_len_seq (by rfl) B.len PySem.boot_len (pa_cons (pv 0) pa_nil)) pe_int (nomark _)))))
(pss_one (ps_ret pe_bl))
pss_nil)
(pss_cons (ps_if (PW.pt (pw_or (pt_not (pt_val (pe_cal C_law_is_integer (hr.mono (by decide)) (by rfl) (pa_cons (pe_ix ix_tup (pv 0) pe_int (fun _ _ => rfl)) pa_nil)))) (pw_or (pt_not (pt_val (pe_cal C_law_is_integer (hr.mono (by decide)) (by rfl) (pa_cons (pe_ix ix_tup (pv 0) pe_int (fun _ _ => rfl)) pa_nil)))) (pw_or1 (pt_cmpR op_lt (pe_ix ix_tup (pv 0) pe_int (fun _ _ => rfl)) pe_int (nomark _))))))
(pss_one (ps_ret pe_bl))
pss_nil)
(pss_one (ps_ret (pe_cmpR op_eq (pe_cal C_law_gcd (hr.mono (by decide)) (by rfl) (pa_cons (pe_callB call_abs (by rfl) B.abs (by decide +kernel) (pa_cons (pe_ix ix_tup (pv 0) pe_int (fun _ _ => rfl)) pa_nil)) (pa_cons (pe_ix ix_tup (pv 0) pe_int (fun _ _ => rfl)) pa_nil))) pe_int (nomark _)))))), 
fun x hp => by
    show StD K [pureS x] _ _
    have hp : SmR x := hp
    refine st_seq (st_if (b := false) (evb_or (a := false) (b := false) (evb_not (a := true) (evb_B (evd_isi (b := true) (evd_var (x := x) rfl) ty_rat rfl))) fun z => (evb_test ((evd_neN (len_ofP (EvD.pr (evd_var (x := x) rfl))) (evd_nat (i := 2))).to rfl))) (fun h => nomatch h) (fun h => st_next ?_))
    have hd := den_pos x
    refine st_seq (st_if (b := false) (evb_or (a := false) (b := false) (evb_not (a := true) (evb_B (evd_call1 (evd_num (evd_var (x := x) rfl)) trivial))) fun z => (evb_or (a := false) (b := false) (evb_not (a := true) (evb_B (evd_call1 (evd_den (evd_var (x := x) rfl)) trivial))) fun z => (evb_test ((evd_lt (evd_den (evd_var (x := x) rfl)) evd_int).to (decide_eq_false (by omega)))))) (fun h => nomatch h) (fun h => st_next ?_))
    refine st_ret (evd_eqI (EvD.int (evd_call2 (evd_abs (evd_num (evd_var (x := x) rfl))) (EvD.nat (n := x.den) (evd_den (evd_var (x := x) rfl)) rfl) hp.2)) evd_int) rfl ?_
    have := x.reduced
    unfold Nat.Coprime at this
    rw [this]
    rfl
⟩
abbrev sp__law_are_fractions := sp2 (fun (xs : List Rat) (n : Nat) => FitL 40000000 xs ∧ xs.length = n) (fun _ _ => true)
theorem ok__law_are_fractions {f : Addr} {fd : FuncData} (F : Fun K "_law_are_fractions" "_law_are_fractions" s__law_are_fractions f fd) (B : Bi P mg base) (C_law_is_fraction : Cal P w K mg base 41 "_law_is_fraction" ["_law_x"] (sp__law_is_fraction K)) : FnOk P w K mg base CX0 42 f fd ["_law_xs", "_law_many"] (sp__law_are_fractions K) :=
  fn_st F sc__law_are_fractions (fun _ => rfl) fun cdv A' outer s H E hr => ⟨_,
(pss_cons (ps_if (PW.pt (pw_or (pt_not (pt_val (pe_callB call_isi (by rfl) B.isinstance (by decide +kernel) (pa_cons (pv 0) (pa_cons (pe_bltn (v := .ty "list") (by rfl) B.list (by decide +kernel) rfl) pa_nil))))) (pw_or1 (pt_cmpR op_ne (pe_callB call_len_seq (by rfl) B.len PySem.boot_len (pa_cons (pv 0) pa_nil)) (pv 1) (nomark _)))))
(pss_one (ps_ret pe_bl))
pss_nil)
(pss_cons (ps_for PassesOwn.never rfl (pi_list (pv 0)) (pg_name (i := 2) sc__law_are_fractions.nd rfl (.inl rfl))
(pss_one (ps_if (pt_not (pt_val (pe_cal C_law_is_fraction (hr.mono (by decide)) (by rfl) (pa_cons (pv 2) pa_nil))))
(pss_one (ps_ret pe_bl))
pss_nil)))
(pss_one (ps_ret pe_bl)))), 
fun ⟨xs, n⟩ hp => by
    show StD K [pureS xs, pureS n, none] _ _
    obtain ⟨hf, hl⟩ : FitL 40000000 xs ∧ xs.length = n := hp
    refine st_seq (st_if (b := false) (evb_or (a := false) (b := false) (evb_not (a := true) (evb_B (evd_isi (b := true) (evd_var (x := xs) rfl) ty_list rfl))) fun z => (evb_test ((evd_neN (len_of (EvD.l (evd_var (x := xs) rfl))) (evd_var (x := n) rfl)).to (by simp [hl])))) (fun h => nomatch h) (fun h => st_next ?_))
    refine st_seq (st_forL (fun i G' => ∃ s2, G' = [pureS xs, pureS n, s2]) (evd_var (x := xs) rfl) ⟨_, rfl⟩ (fun i x G' hx hI => ⟨_, gd_name, ?_⟩) fun G' hI => ?_)
    · obtain ⟨s2, rfl⟩ := hI
      exact st_if (b := false) (evb_not (a := true) (evb_B (evd_call1 (evd_var (x := x) rfl) (hf x (List.mem_of_getElem? hx))))) (fun h => nomatch h) (fun h => st_next ⟨_, rfl⟩)
    · obtain ⟨s2, rfl⟩ := hI
      exact st_ret evd_bl rfl rfl
⟩
end BB

/-! the law's rows -/
namespace BB
open PySem PySem.Spec L2
variable {P : Program} {w : World} {K : KF} {mg : Str → Option Value} {base : Heap} {aZ aO : Addr}
def SmS (s : Scr) : Prop := s.l.length ≤ 63 ∧ ∀ x ∈ s.l, Fit 1048576 x
structure RowR (n : Nat) (l : List Int) : Prop where
  len : l.length = n
  d : Digs l
theorem RowR.add {n : Nat} {l : List Int} {x : Int} (h : RowR n l) (h0 : 0 ≤ x) (h1 : x < 1000) : RowR (n + 1) (l ++ [x]) :=
  ⟨by rw [List.length_append, h.len]; rfl, fun y hy => by
    rcases List.mem_append.mp hy with z | z
    · exact h.d y z
    · rw [List.mem_singleton.mp z]; omega⟩
theorem fit_lit {n : Nat} {i : Int} (h : i.natAbs < n) : Fit n i := fit_small h
theorem fit_c {i : Int} (h : i.natAbs < 2 ^ 64 := by decide) : Fit 64 i := h
theorem fit_b {i : Int} (h0 : -18446744073709551616 < i) (h1 : i < 18446744073709551616) : Fit 64 i := by
  unfold Fit
  have : (2 : Nat) ^ 64 = 18446744073709551616 := by decide
  omega
theorem mixU {i : Int} {m : Int} (hm : 0 < m) : 0 ≤ i % m ∧ i % m < m := ⟨Int.emod_nonneg _ (by omega), Int.emod_lt_of_pos _ hm⟩
abbrev sp__law_row := spR (A := Scr × Nat × Nat) (fun a => [dyn a.1, dyn a.2.1, dyn a.2.2]) (fun a => SmS a.1 ∧ a.2.1 ≤ 20 ∧ a.2.2 ≤ 40) (fun a => RetP (RowR a.2.2))
theorem ok__law_row {f : Addr} {fd : FuncData} (F : Fun K "_law_row" "_law_row" s__law_row f fd) (B : Bi P mg base) : FnOk P w K mg base CX0 40 f fd ["_law_script", "_law_place", "_law_many"] (sp__law_row K) :=
  fn_st F sc__law_row (fun _ => rfl) fun cdv A' outer s H E hr => ⟨_,
(pss_cons (ps_set (i := 3) sc__law_row.nd rfl (.inl rfl) (pe_op op_add (pe_op op_mulA pe_int (pv 1)) pe_int))
(pss_cons (ps_if (pt_cmpR op_lt (pv 1) (pe_callB call_len_seq (by rfl) B.len PySem.boot_len (pa_cons (pv 0) pa_nil)) (nomark _))
(pss_one (ps_set (i := 3) sc__law_row.nd rfl (.inl rfl) (pe_ix ix_list (pv 0) (pv 1) (fun _ _ => rfl))))
pss_nil)
(pss_cons (ps_set (i := 4) sc__law_row.nd rfl (.inl rfl) (pe_op op_sub (pv 3) (pe_op op_pow pe_int pe_int)))
(pss_cons (ps_set (i := 5) sc__law_row.nd rfl (.inl rfl) (pe_lst pa_nil))
(pss_cons (ps_for PassesOwn.never rfl (pi_range1 (by rfl) B.range (pa_cons (pv 2) pa_nil)) (pg_name (i := 6) sc__law_row.nd rfl (.inl rfl))
(pss_one (ps_if (pt_cmpR op_gt (pv 4) pe_int (nomark _))
(pss_cons (ps_expr (pe_bm PySem.F.plainAttrs_list PySem.F.slot_list_append PySem.F.type_list_append mt_append (pv 5) (pa_cons (pe_op op_mod (pe_callTy call_int1 (by rfl) B.int (by decide +kernel) (pa_cons (pv 4) pa_nil)) pe_int) pa_nil)))
(pss_one (ps_set (i := 4) sc__law_row.nd rfl (.inl rfl) (pe_op (op_fdivA B.seer B.tree rfl rfl rfl (room_div hr)) (pv 4) pe_int))))
(pss_cons (ps_set (i := 7) sc__law_row.nd rfl (.inl rfl) (pe_op op_mod (pe_callTy call_int1 (by rfl) B.int (by decide +kernel) (pa_cons (pe_op op_add (pe_op op_add (pe_op op_mulA (pv 3) pe_int) (pe_op op_mulA (pv 6) pe_int)) pe_int) pa_nil)) pe_int))
(pss_cons (ps_set (i := 7) sc__law_row.nd rfl (.inl rfl) (pe_op op_mod (pe_callTy call_int1 (by rfl) B.int (by decide +kernel) (pa_cons (pe_op op_add (pe_op op_add (pe_op op_mulA (pv 7) (pv 7)) (pe_op op_mulA (pv 7) pe_int)) (pe_op op_mulA (pv 6) pe_int)) pa_nil)) pe_int))
(pss_one (ps_expr (pe_bm PySem.F.plainAttrs_list PySem.F.slot_list_append PySem.F.type_list_append mt_append (pv 5) (pa_cons (pe_op op_mod (pe_op (op_fdivA B.seer B.tree rfl rfl rfl (room_div hr)) (pv 7) pe_int) pe_int) pa_nil)))))))))
(pss_one (ps_ret (pv 5)))))))), 
fun ⟨sc, pl, n⟩ hp => by
    show StD K [pureS sc, pureS pl, pureS n, none, none, none, none, none] _ _
    obtain ⟨hs, hpl, hn⟩ : SmS sc ∧ pl ≤ 20 ∧ n ≤ 40 := hp
    refine st_seq (st_set (evd_add (evd_mul evd_int (EvD.int (evd_var (x := pl) rfl)) (Fit.mulOk fit_c (fit_b (i := (pl : Int)) (by omega) (by omega)) (by decide))) evd_int) ?_)
    refine st_mid (fun G' => ∃ cell : Int, G' = [pureS sc, pureS pl, pureS n, pureS cell, none, none, none, none] ∧ Fit 1048576 cell) ?_ ?_
    · refine st_if (evb_test (evd_ltN (evd_var (x := pl) rfl) (len_ofS (evd_var (x := sc) rfl)))) (fun h => ?_) (fun h => ?_)
      · have h := of_decide_eq_true h
        exact st_set (evd_ixS (evd_var (x := sc) rfl) (evd_var (x := pl) rfl) h) ⟨_, rfl, by
          rw [List.getD_eq_getElem?_getD, List.getElem?_eq_getElem h]
          exact hs.2 _ (List.getElem_mem h)⟩
      · exact st_next ⟨_, rfl, (fit_b (i := 7919 * (pl : Int) + 5) (by omega) (by omega)).mono (by decide)⟩
    · rintro G' ⟨cell, rfl, hc⟩
      refine st_seq (st_set (evd_sub (evd_var (x := cell) rfl) (evd_pow evd_int evd_int ⟨by decide, by decide, by decide⟩)) ?_)
      refine st_seq (st_own (evn_nil (α := Int)) ?_)
      have hr0 : Fit 1048577 (cell - 10 ^ 18) := hc.sub (fit_c (i := 10 ^ 18) (by decide)) (by decide) (by decide)
      refine st_seq (st_forR (fun k G' => ∃ rest l s6 s7, G' = [pureS sc, pureS pl, pureS n, pureS cell, pureS (rest : Int), ownS l, s6, s7] ∧ RowR k l) (evd_var (x := n) rfl) (by omega) ⟨_, _, _, _, rfl, rfl, fun _ h => nomatch h⟩ (fun k G' hk hI => ?_) fun G' hI => ?_)
      · obtain ⟨rest, l, s6, s7, rfl, hI⟩ := hI
        have hll := hI.len
        refine st_if (evb_test (evd_gt (evd_var (x := rest) rfl) evd_int)) (fun h => ?_) (fun h => ?_)
        · have hm := mixU (i := rest) (m := 1000) (by decide)
          refine st_seq (st_app rfl (evd_mod (evd_intc (evd_var (x := rest) rfl)) evd_int (by decide)) (by omega) ?_)
          exact st_set (evd_div (evd_var (x := rest) rfl) evd_int (by decide)) ⟨_, _, _, _, rfl, hI.add hm.1 hm.2⟩
        · refine st_seq (st_set (evd_mod (evd_intc (evd_add (evd_add (evd_mul (evd_var (x := cell) rfl) evd_int (hc.mulOk fit_c (by decide))) (evd_mul (EvD.int (evd_var (x := k) rfl)) evd_int ((fit_b (i := (k : Int)) (by omega) (by omega)).mulOk fit_c (by decide)))) evd_int)) evd_int (by decide)) ?_)
          have hm := mixU (i := cell * 48271 + k * 69621 + 12345) (m := 2147483647) (by decide)
          show StD K [pureS sc, pureS pl, pureS n, pureS cell, pureS rest, ownS l, pureS k, pureS ((cell * 48271 + (k : Int) * 69621 + 12345) % 2147483647)] _ _
          generalize (cell * 48271 + (k : Int) * 69621 + 12345) % 2147483647 = m at *
          have fm := fit_b (i := m) (by omega) (by omega)
          refine st_seq (st_set (evd_mod (evd_intc (evd_add (evd_add (evd_mul (evd_var (x := m) rfl) (evd_var (x := m) rfl) (fm.mulOk fm (by decide))) (evd_mul (evd_var (x := m) rfl) evd_int (fm.mulOk fit_c (by decide)))) (evd_mul (EvD.int (evd_var (x := k) rfl)) evd_int ((fit_b (i := (k : Int)) (by omega) (by omega)).mulOk fit_c (by decide))))) evd_int (by decide)) ?_)
          show StD K [pureS sc, pureS pl, pureS n, pureS cell, pureS rest, ownS l, pureS k, pureS ((m * m + m * 16807 + (k : Int) * 40692) % 2147483399)] _ _
          generalize (m * m + m * 16807 + (k : Int) * 40692) % 2147483399 = m2 at *
          have hm2 := mixU (i := m2 / 64) (m := 1000) (by decide)
          exact st_app rfl (evd_mod (evd_div (evd_var (x := m2) rfl) evd_int (by decide)) evd_int (by decide)) (by omega) ⟨_, _, _, _, rfl, hI.add hm2.1 hm2.2⟩
      · obtain ⟨rest, l, s6, s7, rfl, hI⟩ := hI
        exact st_freeze 5 rfl (st_retP (EvD.p (R := fun x => x = l) (evd_var rfl) rfl) rfl fun x hx => by rw [hx]; exact hI)
⟩
end BB

/-! the law's purchases -/
namespace BB
open PySem PySem.Spec L2
variable {P : Program} {w : World} {K : KF} {mg : Str → Option Value} {base : Heap} {aZ aO : Addr}
theorem pos_num {r : Rat} : 0 < r ↔ 0 < r.num := by
  rw [Rat.lt_iff]
  simp
theorem divInt_pos0 {p q : Int} (hp : 0 < p) (hq : 0 < q) : 0 < Rat.divInt p q := by
  have h1 := (Rat.divInt_nonneg_iff_of_pos_right (a := p) hq).mpr (Int.le_of_lt hp)
  refine Rat.lt_of_le_of_ne h1 fun e => ?_
  obtain ⟨h2, _⟩ := divInt_pos (p := p) hq
  rw [← e] at h2
  have hd : (Nat.gcd p.natAbs q.natAbs : Int) ∣ p := Int.ofNat_dvd_left.mpr (Nat.gcd_dvd_left _ _)
  have h3 := Int.mul_ediv_cancel' hd
  rw [← h2] at h3
  have h4 : ((0 : Rat).num) = 0 := rfl
  rw [h4] at h3
  omega
/-- a price and an amount -/
structure PA (p a : Rat) : Prop where
  fp : FitR 45 p
  p0 : 0 < p
  fa : FitR 64 a
  a0 : 0 ≤ a
theorem pa_low {n p q : Int} {k : Nat} (hp : 0 ≤ p) (hp' : p < 2 ^ k) (hq : 0 < q) (hq' : q < 2 ^ k) (hk : k ≤ 64) : FitR k (Rat.divInt p q) ∧ 0 ≤ Rat.divInt p q ∧ (0 < p → 0 < Rat.divInt p q) :=
  ⟨fit_divInt (fit_of hp hp') (fit_of (by omega) hq') (by omega), (Rat.divInt_nonneg_iff_of_pos_right hq).mpr hp, fun h => divInt_pos0 h hq⟩
theorem cast_low {k : Nat} {p : Int} (hp : 0 ≤ p) (hp' : p < 2 ^ k) (hk : 0 < k) : FitR k (p : Rat) ∧ 0 ≤ (p : Rat) ∧ (0 < p → 0 < (p : Rat)) :=
  ⟨⟨fit_of hp hp', (fit_one hk).1⟩, Rat.num_nonneg.mp hp, fun h => pos_num.mpr h⟩
/-- so many prices and amounts -/
structure PAs (n : Nat) (ps as : List Rat) : Prop where
  l1 : ps.length = n
  l2 : as.length = n
  fp : FitL 64 ps
  p0 : ∀ x ∈ ps, 0 < x
  fa : FitL 64 as
  a0 : ∀ x ∈ as, 0 ≤ x
theorem PAs.add {n : Nat} {ps as : List Rat} {p a : Rat} (h : PAs n ps as) (g : PA p a) : PAs (n + 1) (ps ++ [p]) (as ++ [a]) where
  l1 := by rw [List.length_append, h.l1]; rfl
  l2 := by rw [List.length_append, h.l2]; rfl
  fp := fun x hx => by
    rcases List.mem_append.mp hx with z | z
    · exact h.fp x z
    · rw [List.mem_singleton.mp z]; exact g.fp.mono (by decide)
  p0 := fun x hx => by
    rcases List.mem_append.mp hx with z | z
    · exact h.p0 x z
    · rw [List.mem_singleton.mp z]; exact g.p0
  fa := fun x hx => by
    rcases List.mem_append.mp hx with z | z
    · exact h.fa x z
    · rw [List.mem_singleton.mp z]; exact g.fa
  a0 := fun x hx => by
    rcases List.mem_append.mp hx with z | z
    · exact h.a0 x z
    · rw [List.mem_singleton.mp z]; exact g.a0
/-- a purchase as the law draws it -/
structure BuyP (g : Nat) (b : Buy) : Prop where
  s : PAs g b.1 b.2
  ex : ∃ x ∈ b.2, 0 < x
theorem BuyP.ok {g : Nat} {b : Buy} (h : BuyP g b) : BuyOk g b := ⟨h.s.l1, h.s.l2, h.s.fp, h.s.fa⟩
theorem max_ex : ∀ {l : List Int}, 0 < l.length → ∃ m ∈ l, ∀ y ∈ l, y ≤ m
  | [], h => absurd h (Nat.lt_irrefl _)
  | [a], _ => ⟨a, List.mem_singleton.mpr rfl, fun y hy => by rw [List.mem_singleton.mp hy]; exact Int.le_refl _⟩
  | a :: b :: l, _ => by
    obtain ⟨m, hm, h⟩ := max_ex (l := b :: l) (Nat.zero_lt_succ _)
    by_cases z : a ≤ m
    · refine ⟨m, List.mem_cons_of_mem _ hm, fun y hy => ?_⟩
      rcases List.mem_cons.mp hy with q | q
      · rw [q]; exact z
      · exact h y q
    · refine ⟨a, List.mem_cons_self, fun y hy => ?_⟩
      rcases List.mem_cons.mp hy with q | q
      · rw [q]; exact Int.le_refl _
      · have := h y q
        omega
structure PurOk (r sh : List Int) (g : Nat) (kd : Int) : Prop where
  r : RowR 33 r
  sh : RowR 9 sh
  g0 : 0 < g
  g4 : g ≤ 4
section
variable {G : GEnv} {ta tb : TE}
theorem ixN {α : Type} [Rep α] [Inhabited α] {l : List α} {i : Int} {j : Nat} (ha : EvL K G ta l) (hb : EvD K G tb i) (e : i = (j : Int)) (h : j < l.length) : EvD K G (tOp (rIxL K) ta tb) (l.getD j default) := evd_ix ha (EvD.nat hb e) h
theorem e8 {i k : Nat} (h : G[i]? = some (pureS k)) (hk : k < 1000) : EvD K G (tOp (rI IntMulOk fun i j => .int (i * j)) (tC (.int 8)) (tVar i)) (8 * (k : Int)) := evd_mul evd_int (EvD.int (evd_var h)) (Fit.mulOk fit_c (fit_b (i := (k : Int)) (by omega) (by omega)) (by decide))
end
abbrev sp__law_purchase := spR (A := List Int × List Int × Nat × Int) (fun a => [dyn a.1, dyn a.2.1, dyn a.2.2.1, dyn a.2.2.2]) (fun a => PurOk a.1 a.2.1 a.2.2.1 a.2.2.2) (fun a => RetP (BuyP a.2.2.1))
abbrev s__law_purchase : Stmt := topS 42
abbrev N__law_purchase : List Str := ["_law_row_here", "_law_shape", "_law_goods", "_law_kind_here", "_law_prices", "_law_amounts", "_law_k", "_law_price", "_law_amount", "_law_x"]
theorem sc__law_purchase : FnScope N__law_purchase ["_law_row_here", "_law_shape", "_law_goods", "_law_kind_here"] (defScope s__law_purchase) := ⟨rfl, rfl, rfl, by decide +kernel, rfl, by decide +kernel, by decide +kernel⟩

theorem dmod {r : List Int} {j : Nat} (h : Digs r) (hj : j < r.length) {m : Int} (hm : 0 < m) : 0 ≤ r.getD j default % m ∧ r.getD j default % m < m := mixU hm
theorem ok__law_purchase {f : Addr} {fd : FuncData} (F : Fun K "_law_purchase" "_law_purchase" s__law_purchase f fd) (B : Bi P mg base) (C_law_long : Cal P w K mg base 40 "_law_long" ["_law_row_here", "_law_start", "_law_many"] (sp__law_long K)) (C_law_lowest : Cal P w K mg base 41 "_law_lowest" ["_law_p", "_law_q"] (sp__law_lowest K)) : FnOk P w K mg base CX0 42 f fd ["_law_row_here", "_law_shape", "_law_goods", "_law_kind_here"] (sp__law_purchase K) :=
  fn_st F sc__law_purchase (fun _ => rfl) fun cdv A' outer s H E hr => ⟨_,
(pss_cons (ps_set (i := 4) sc__law_purchase.nd rfl (.inl rfl) (pe_lst pa_nil))
(pss_cons (ps_set (i := 5) sc__law_purchase.nd rfl (.inl rfl) (pe_lst pa_nil))
(pss_cons (ps_for PassesOwn.never rfl (pi_range1 (by rfl) B.range (pa_cons (pv 2) pa_nil)) (pg_name (i := 6) sc__law_purchase.nd rfl (.inl rfl))
(pss_cons (ps_set (i := 7) sc__law_purchase.nd rfl (.inl rfl) (pe_cal C_law_lowest (hr.mono (by decide)) (by rfl) (pa_cons (pe_op op_add pe_int (pe_op op_mod (pe_callTy call_int1 (by rfl) B.int (by decide +kernel) (pa_cons (pe_ix ix_list (pv 0) (pe_op op_mulA pe_int (pv 6)) (fun _ _ => rfl)) pa_nil)) pe_int)) (pa_cons (pe_op op_add pe_int (pe_op op_mod (pe_callTy call_int1 (by rfl) B.int (by decide +kernel) (pa_cons (pe_ix ix_list (pv 0) (pe_op op_add (pe_op op_mulA pe_int (pv 6)) pe_int) (fun _ _ => rfl)) pa_nil)) pe_int)) pa_nil))))
(pss_cons (ps_set (i := 8) sc__law_purchase.nd rfl (.inl rfl) (pe_cal C_law_lowest (hr.mono (by decide)) (by rfl) (pa_cons (pe_op op_mod (pe_callTy call_int1 (by rfl) B.int (by decide +kernel) (pa_cons (pe_ix ix_list (pv 0) (pe_op op_add (pe_op op_mulA pe_int (pv 6)) pe_int) (fun _ _ => rfl)) pa_nil)) pe_int) (pa_cons (pe_op op_add pe_int (pe_op op_mod (pe_callTy call_int1 (by rfl) B.int (by decide +kernel) (pa_cons (pe_ix ix_list (pv 0) (pe_op op_add (pe_op op_mulA pe_int (pv 6)) pe_int) (fun _ _ => rfl)) pa_nil)) pe_int)) pa_nil))))
(pss_cons (ps_if (pt_cmpR op_eq (pv 3) pe_int (nomark _))
(pss_one (ps_set (i := 7) sc__law_purchase.nd rfl (.inl rfl) (pe_tup (pa_cons (pe_op op_add pe_int (pe_op op_mod (pe_callTy call_int1 (by rfl) B.int (by decide +kernel) (pa_cons (pe_ix ix_list (pv 0) (pe_op op_mulA pe_int (pv 6)) (fun _ _ => rfl)) pa_nil)) pe_int)) (pa_cons pe_int pa_nil)))))
pss_nil)
(pss_cons (ps_if (pt_cmpR op_eq (pv 3) pe_int (nomark _))
(pss_one (ps_set (i := 7) sc__law_purchase.nd rfl (.inl rfl) (pe_tup (pa_cons (pe_op op_add pe_int (pe_op op_mod (pe_callTy call_int1 (by rfl) B.int (by decide +kernel) (pa_cons (pe_ix ix_list (pv 1) (pe_op op_add pe_int (pv 6)) (fun _ _ => rfl)) pa_nil)) pe_int)) (pa_cons pe_int pa_nil)))))
pss_nil)
(pss_cons (ps_if (PW.pt (pw_or (pt_cmpR op_eq (pv 3) pe_int (nomark _)) (pw_or1 (pt_cmpR op_eq (pv 3) pe_int (nomark _)))))
(pss_one (ps_set (i := 8) sc__law_purchase.nd rfl (.inl rfl) (pe_tup (pa_cons (pe_op op_mod (pe_callTy call_int1 (by rfl) B.int (by decide +kernel) (pa_cons (pe_ix ix_list (pv 0) (pe_op op_add (pe_op op_mulA pe_int (pv 6)) pe_int) (fun _ _ => rfl)) pa_nil)) pe_int) (pa_cons pe_int pa_nil)))))
pss_nil)
(pss_cons (ps_if (pt_cmpR op_eq (pv 3) pe_int (nomark _))
(pss_one (ps_set (i := 8) sc__law_purchase.nd rfl (.inl rfl) (pe_cal C_law_lowest (hr.mono (by decide)) (by rfl) (pa_cons (pe_op op_mulA (pe_op op_mulA (pe_op op_add pe_int (pe_op op_mod (pe_callTy call_int1 (by rfl) B.int (by decide +kernel) (pa_cons (pe_ix ix_list (pv 1) (pe_op op_add pe_int (pv 6)) (fun _ _ => rfl)) pa_nil)) pe_int)) (pe_op op_add pe_int (pe_op op_mod (pe_callTy call_int1 (by rfl) B.int (by decide +kernel) (pa_cons (pe_ix ix_list (pv 0) pe_int (fun _ _ => rfl)) pa_nil)) pe_int))) (pe_ix ix_tup (pv 7) pe_int (fun _ _ => rfl))) (pa_cons (pe_ix ix_tup (pv 7) pe_int (fun _ _ => rfl)) pa_nil)))))
pss_nil)
(pss_cons (ps_if (pt_cmpR op_eq (pv 3) pe_int (nomark _))
(pss_cons (ps_set (i := 7) sc__law_purchase.nd rfl (.inl rfl) (pe_cal C_law_lowest (hr.mono (by decide)) (by rfl) (pa_cons (pe_op op_add pe_int (pe_cal C_law_long (hr.mono (by decide)) (by rfl) (pa_cons (pv 0) (pa_cons (pe_op op_mulA pe_int (pv 6)) (pa_cons pe_int pa_nil))))) (pa_cons (pe_op op_add pe_int (pe_ix ix_list (pv 0) (pe_op op_add (pe_op op_mulA pe_int (pv 6)) pe_int) (fun _ _ => rfl))) pa_nil))))
(pss_one (ps_set (i := 8) sc__law_purchase.nd rfl (.inl rfl) (pe_cal C_law_lowest (hr.mono (by decide)) (by rfl) (pa_cons (pe_cal C_law_long (hr.mono (by decide)) (by rfl) (pa_cons (pv 0) (pa_cons (pe_op op_add (pe_op op_mulA pe_int (pv 6)) pe_int) (pa_cons pe_int pa_nil)))) (pa_cons (pe_op op_add pe_int (pe_ix ix_list (pv 0) (pe_op op_mulA pe_int (pv 6)) (fun _ _ => rfl))) pa_nil))))))
pss_nil)
(pss_cons (ps_expr (pe_bm PySem.F.plainAttrs_list PySem.F.slot_list_append PySem.F.type_list_append mt_append (pv 4) (pa_cons (pv 7) pa_nil)))
(pss_one (ps_expr (pe_bm PySem.F.plainAttrs_list PySem.F.slot_list_append PySem.F.type_list_append mt_append (pv 5) (pa_cons (pv 8) pa_nil)))))))))))))
(pss_cons (ps_if (pt_cmpR op_eq (pe_callB (cr_max rfl) (by rfl) B.max (by decide +kernel) (pa_cons (pe_lc (own := [("_law_x", 9)]) (g := gName 9) (tt := tYes) rfl sc__law_purchase.nd (pi_list (pv 5)) (blkOk_by (N := N__law_purchase) (sc := defScope s__law_purchase) (by decide +kernel)) (fun _ _ _ _ _ => (pg_name (i := 9) sc__law_purchase.nd rfl (.inl rfl))) (fun _ _ _ _ _ => pts_nil) (fun _ _ _ _ _ => (pe_ix ix_tup (pv 9) pe_int (fun _ _ => rfl)))) pa_nil)) pe_int (nomark _))
(pss_one (ps_asg (pe_tup (pa_cons pe_int (pa_cons pe_int pa_nil))) (pg_sub (pv 5) (pe_op op_sub (pv 2) pe_int) set_list)))
pss_nil)
(pss_one (ps_ret (pe_tup (pa_cons (pv 4) (pa_cons (pv 5) pa_nil))))))))), 
fun ⟨r, sh, g, kd⟩ hp => by
    show StD K [pureS r, pureS sh, pureS g, pureS kd, none, none, none, none, none, none] _ _
    have hp : PurOk r sh g kd := hp
    have hrl := hp.r.len
    have hsl := hp.sh.len
    have hr' := hp.r.d
    have hs' := hp.sh.d
    have hg0 := hp.g0
    have hg4 := hp.g4
    refine st_seq (st_own (evn_nil (α := Rat)) ?_)
    refine st_seq (st_own (evn_nil (α := Rat)) ?_)
    refine st_seq (st_forR (fun k G' => ∃ ps as s6 s7 s8, G' = [pureS r, pureS sh, pureS g, pureS kd, ownS ps, ownS as, s6, s7, s8, none] ∧ PAs k ps as) (evd_var (x := g) rfl) (by omega) ⟨_, _, _, _, _, rfl, ⟨rfl, rfl, (fun _ h => nomatch h), (fun _ h => nomatch h), (fun _ h => nomatch h), (fun _ h => nomatch h)⟩⟩ (fun k G' hk hI => ?_) fun G' hI => ?_)
    · obtain ⟨ps, as, s6, s7, s8, rfl, hI⟩ := hI
      have d0 := hr'.at (k := 8 * k) (by omega)
      have d1 := hr'.at (k := 8 * k + 1) (by omega)
      have d2 := hr'.at (k := 8 * k + 2) (by omega)
      have d3 := hr'.at (k := 8 * k + 3) (by omega)
      have d4 := hr'.at (k := 8 * k + 4) (by omega)
      have l1 := long_fit (r := r) (s := 8 * k) (n := 4) ⟨hr', by omega, by omega⟩
      have l2 := long_fit (r := r) (s := 8 * k + 4) (n := 4) ⟨hr', by omega, by omega⟩
      have m1 := dmod (m := 12) hr' (j := 8 * k) (by omega) (by decide)
      have m2 := dmod (m := 5) hr' (j := 8 * k + 1) (by omega) (by decide)
      have m3 := dmod (m := 7) hr' (j := 8 * k + 2) (by omega) (by decide)
      have m4 := dmod (m := 4) hr' (j := 8 * k + 3) (by omega) (by decide)
      have m5 := dmod (m := 3) hr' (j := 8 * k) (by omega) (by decide)
      have m6 := dmod (m := 3) hs' (j := 4 + k) (by omega) (by decide)
      have m7 := dmod (m := 4) hr' (j := 8 * k + 2) (by omega) (by decide)
      have m8 := dmod (m := 5) hs' (j := 4 + k) (by omega) (by decide)
      have m9 := dmod (m := 5) hr' (j := 32) (by omega) (by decide)
      have b1 := pa_low (n := 0) (p := 1 + r.getD (8 * k) default % 12) (q := 1 + r.getD (8 * k + 1) default % 5) (k := 45) (by omega) (by omega) (by omega) (by omega) (by decide)
      have b2 := pa_low (n := 0) (p := r.getD (8 * k + 2) default % 7) (q := 1 + r.getD (8 * k + 3) default % 4) (k := 64) (by omega) (by omega) (by omega) (by omega) (by decide)
      have b3 := cast_low (k := 45) (p := 1 + r.getD (8 * k) default % 3) (by omega) (by omega) (by decide)
      have b4 := cast_low (k := 45) (p := 1 + sh.getD (4 + k) default % 3) (by omega) (by omega) (by decide)
      have b5 := cast_low (k := 64) (p := r.getD (8 * k + 2) default % 4) (by omega) (by omega) (by decide)
      have b6 := pa_low (n := 0) (p := 1 + longM r (8 * k) 4) (q := 1 + r.getD (8 * k + 4) default) (k := 45) (by omega) (by omega) (by omega) (by omega) (by decide)
      have b7 := pa_low (n := 0) (p := longM r (8 * k + 4) 4) (q := 1 + r.getD (8 * k) default) (k := 64) (by omega) (by omega) (by omega) (by omega) (by decide)
      refine st_seq (st_set (evd_call2 (evd_add evd_int (evd_mod (evd_intc (ixN (EvD.l (evd_var (x := r) rfl)) (e8 (k := k) rfl (by omega)) (j := 8 * k) (by omega) (by omega))) evd_int (by decide))) (evd_add evd_int (evd_mod (evd_intc (ixN (EvD.l (evd_var (x := r) rfl)) (evd_add (e8 (k := k) rfl (by omega)) evd_int) (j := 8 * k + 1) (by omega) (by omega))) evd_int (by decide))) ⟨by omega, fit_lit (by omega)⟩) ?_)
      refine st_seq (st_set (evd_call2 (evd_mod (evd_intc (ixN (EvD.l (evd_var (x := r) rfl)) (evd_add (e8 (k := k) rfl (by omega)) evd_int) (j := 8 * k + 2) (by omega) (by omega))) evd_int (by decide)) (evd_add evd_int (evd_mod (evd_intc (ixN (EvD.l (evd_var (x := r) rfl)) (evd_add (e8 (k := k) rfl (by omega)) evd_int) (j := 8 * k + 3) (by omega) (by omega))) evd_int (by decide))) ⟨by omega, fit_lit (by omega)⟩) ?_)
      refine st_mid (fun G' => ∃ p a, G' = [pureS r, pureS sh, pureS g, pureS kd, ownS ps, ownS as, pureS k, pureS (p : Rat), pureS (a : Rat), none] ∧ PA p a) ?_ ?_
      · refine st_if (evb_test (evd_eqI (evd_var (x := kd) rfl) evd_int)) (fun h => ?_) (fun h => ?_)
        · exact st_set (x := ((1 + r.getD (8 * k) default % 3 : Int) : Rat)) (EvD.rat (evd_tup2 (evd_add evd_int (evd_mod (evd_intc (ixN (EvD.l (evd_var (x := r) rfl)) (e8 (k := k) rfl (by omega)) (j := 8 * k) (by omega) (by omega))) evd_int (by decide))) evd_int) rfl) ⟨_, _, rfl, b3.1, b3.2.2 (by omega), b2.1, b2.2.1⟩
        · exact st_next ⟨_, _, rfl, b1.1, b1.2.2 (by omega), b2.1, b2.2.1⟩
      rintro G' ⟨p, a, rfl, hpa⟩
      refine st_mid (fun G' => ∃ p a, G' = [pureS r, pureS sh, pureS g, pureS kd, ownS ps, ownS as, pureS k, pureS (p : Rat), pureS (a : Rat), none] ∧ PA p a) ?_ ?_
      · refine st_if (evb_test (evd_eqI (evd_var (x := kd) rfl) evd_int)) (fun h => ?_) (fun h => ?_)
        · exact st_set (x := ((1 + sh.getD (4 + k) default % 3 : Int) : Rat)) (EvD.rat (evd_tup2 (evd_add evd_int (evd_mod (evd_intc (ixN (EvD.l (evd_var (x := sh) rfl)) (evd_add evd_int (EvD.int (evd_var (x := k) rfl))) (j := 4 + k) (by omega) (by omega))) evd_int (by decide))) evd_int) rfl) ⟨_, _, rfl, b4.1, b4.2.2 (by omega), hpa.fa, hpa.a0⟩
        · exact st_next ⟨_, _, rfl, hpa⟩
      rintro G' ⟨p, a, rfl, hpa⟩
      refine st_mid (fun G' => ∃ p a, G' = [pureS r, pureS sh, pureS g, pureS kd, ownS ps, ownS as, pureS k, pureS (p : Rat), pureS (a : Rat), none] ∧ PA p a) ?_ ?_
      · refine st_if (evb_or (evb_test (evd_eqI (evd_var (x := kd) rfl) evd_int)) fun z => (evb_test (evd_eqI (evd_var (x := kd) rfl) evd_int))) (fun h => ?_) (fun h => ?_)
        · exact st_set (x := ((r.getD (8 * k + 2) default % 4 : Int) : Rat)) (EvD.rat (evd_tup2 (evd_mod (evd_intc (ixN (EvD.l (evd_var (x := r) rfl)) (evd_add (e8 (k := k) rfl (by omega)) evd_int) (j := 8 * k + 2) (by omega) (by omega))) evd_int (by decide)) evd_int) rfl) ⟨_, _, rfl, hpa.fp, hpa.p0, b5.1, b5.2.1⟩
        · exact st_next ⟨_, _, rfl, hpa⟩
      rintro G' ⟨p, a, rfl, hpa⟩
      refine st_mid (fun G' => ∃ p a, G' = [pureS r, pureS sh, pureS g, pureS kd, ownS ps, ownS as, pureS k, pureS (p : Rat), pureS (a : Rat), none] ∧ PA p a) ?_ ?_
      · refine st_if (evb_test (evd_eqI (evd_var (x := kd) rfl) evd_int)) (fun h => ?_) (fun h => ?_)
        · have hpn := pos_num.mp hpa.p0
          have hpd := den_pos p
          have f1 : Fit 8 (1 + sh.getD (4 + k) default % 5) := fit_of (by omega) (by omega)
          have f2 : Fit 8 (1 + r.getD 32 default % 5) := fit_of (by omega) (by omega)
          have f3 := f1.mul f2
          have f4 := (f3.mul hpa.fp.2).mono (show 8 + 8 + 45 ≤ 64 by decide)
          have n3 : 0 ≤ (1 + sh.getD (4 + k) default % 5) * (1 + r.getD 32 default % 5) * (p.den : Int) := Int.mul_nonneg (Int.mul_nonneg (by omega) (by omega)) (by omega)
          refine st_set (evd_call2 (evd_mul (evd_mul (evd_add evd_int (evd_mod (evd_intc (ixN (EvD.l (evd_var (x := sh) rfl)) (evd_add evd_int (EvD.int (evd_var (x := k) rfl))) (j := 4 + k) (by omega) (by omega))) evd_int (by decide))) (evd_add evd_int (evd_mod (evd_intc (evd_ix (EvD.l (evd_var (x := r) rfl)) (evd_nat (i := 32)) (by omega))) evd_int (by decide))) (f1.mulOk f2 (by decide))) (evd_den (evd_var (x := p) rfl)) (f3.mulOk hpa.fp.2 (by decide))) (evd_num (evd_var (x := p) rfl)) ⟨hpn, hpa.fp.1.mono (by decide)⟩) ⟨_, _, rfl, hpa.fp, hpa.p0, ?_, ?_⟩
          · exact fit_divInt f4 (hpa.fp.1.mono (by decide)) (by omega)
          · exact (Rat.divInt_nonneg_iff_of_pos_right hpn).mpr n3
        · exact st_next ⟨_, _, rfl, hpa⟩
      rintro G' ⟨p, a, rfl, hpa⟩
      refine st_mid (fun G' => ∃ p a, G' = [pureS r, pureS sh, pureS g, pureS kd, ownS ps, ownS as, pureS k, pureS (p : Rat), pureS (a : Rat), none] ∧ PA p a) ?_ ?_
      · refine st_if (evb_test (evd_eqI (evd_var (x := kd) rfl) evd_int)) (fun h => ?_) (fun h => ?_)
        · refine st_seq (st_set (evd_call2 (evd_add evd_int (evd_call3 (evd_var (x := r) rfl) (EvD.nat (n := 8 * k) (e8 (k := k) rfl (by omega)) (by omega)) (evd_nat (i := 4)) ⟨hr', by omega, by omega⟩)) (evd_add evd_int (ixN (EvD.l (evd_var (x := r) rfl)) (evd_add (e8 (k := k) rfl (by omega)) evd_int) (j := 8 * k + 4) (by omega) (by omega))) ⟨by omega, fit_lit (by omega)⟩) ?_)
          exact st_set (evd_call2 (evd_call3 (evd_var (x := r) rfl) (EvD.nat (n := 8 * k + 4) (evd_add (e8 (k := k) rfl (by omega)) evd_int) (by omega)) (evd_nat (i := 4)) ⟨hr', by omega, by omega⟩) (evd_add evd_int (ixN (EvD.l (evd_var (x := r) rfl)) (e8 (k := k) rfl (by omega)) (j := 8 * k) (by omega) (by omega))) ⟨by omega, fit_lit (by omega)⟩) ⟨_, _, rfl, b6.1, b6.2.2 (by omega), b7.1, b7.2.1⟩
        · exact st_next ⟨_, _, rfl, hpa⟩
      rintro G' ⟨p, a, rfl, hpa⟩
      have hl1 := hI.l1
      have hl2 := hI.l2
      refine st_seq (st_app rfl (evd_var (x := p) rfl) (by omega) ?_)
      exact st_app rfl (evd_var (x := a) rfl) (by omega) ⟨_, _, _, _, _, rfl, hI.add hpa⟩
    · obtain ⟨ps, as, s6, s7, s8, rfl, hI⟩ := hI
      have hl2 := hI.l2
      have hnl : (as.map fun x => x.num).length = g := by rw [List.length_map]; exact hl2
      obtain ⟨m, hm, hmx⟩ := max_ex (l := as.map fun x => x.num) (by omega)
      have ret : ∀ as' s6 s7 s8, BuyP g (ps, as') → StD K [pureS r, pureS sh, pureS g, pureS kd, ownS ps, ownS as', s6, s7, s8, none] (tRet (tTup (tCons (tVar 4) (tCons (tVar 5) tNil)))) { nx := fun _ => False, rt := RetP (BuyP g) } := fun as' s6 s7 s8 hb =>
        st_freeze 4 rfl (st_freeze 5 rfl (st_retP (EvD.p (R := fun x => x = (ps, as')) (evd_tup2 (evd_var rfl) (evd_var rfl)) rfl) rfl fun x hx => by rw [hx]; exact hb))
      refine st_seq (st_if (evb_test (evd_eqI (evd_max (EvN.l (evn_lcL0 (fun x => x.num) (evl_own rfl) (by omega) (by decide) (fun i x hx => (evd_num (evd_var (x := x) rfl))))) (by omega) m hm hmx) evd_int)) (fun h => ?_) (fun h => st_next ?_))
      · have h : m = 0 := by simpa using h
        refine st_put (k := g - 1) rfl (x := ((1 : Int) : Rat)) (EvD.rat (evd_tup2 evd_int evd_int) rfl) (EvD.nat (evd_sub (EvD.int (evd_var (x := g) rfl)) evd_int) (by omega)) (by omega) (ret _ _ _ _ ⟨⟨hI.l1, by rw [List.length_set]; exact hl2, hI.fp, hI.p0, fun x hx => ?_, fun x hx => ?_⟩, ?_⟩)
        · rcases List.mem_or_eq_of_mem_set hx with z | z
          · exact hI.fa x z
          · rw [z]; exact fit_one (by decide)
        · rcases List.mem_or_eq_of_mem_set hx with z | z
          · exact hI.a0 x z
          · rw [z]; decide
        · exact ⟨((1 : Int) : Rat), List.mem_set (show g - 1 < as.length by omega) _, by decide⟩
      · have h : m ≠ 0 := by simpa using h
        obtain ⟨x, hx, e⟩ := List.mem_map.mp hm
        refine ret _ _ _ _ ⟨hI, x, hx, pos_num.mpr ?_⟩
        have := Rat.num_nonneg.mpr (hI.a0 x hx)
        have e : x.num = m := e
        omega
⟩
end BB

/-! arguments and items of which a property is told -/
namespace BB
open PySem PySem.Spec L2
def EvX {ι : Type} (K : KF) (G : GEnv) (t : TA) (F : ι → List Dyn) (R : ι → Prop) : Prop :=
  ∀ H0 Hs H σ E, EnvOk K H0 Hs H σ G E → ∀ Q : List V → Hp → Prop, (∀ i vs Hs' H', Grow Hs H Hs' H' → R i → RepL K Hs' vs (F i) → Q vs H') → t σ H Q
section
variable {α β γ : Type} [Rep α] [Rep β] [Rep γ] {K : KF} {G : GEnv} {ta tb te : TE} {tr : TA} {D : Post} {X : XK}
theorem evx_head {R : α → Prop} {ds : List Dyn} (h : EvP K G ta R) (hr : EvA K G tr ds) : EvX K G (tCons ta tr) (fun x : α => dyn x :: ds) R := fun H0 Hs H σ E e Q q =>
  h H0 Hs H σ E e _ fun u x Hs1 H1 g1 hR r1 => hr H0 Hs1 H1 σ E (e.grow g1) _ fun us Hs2 H2 g2 r2 => q x _ Hs2 H2 (g1.trans g2) hR ⟨Rep.mono g2.s r1, r2⟩
theorem evp_callX {ι A : Type} {args : A → List Dyn} {pre : A → Prop} {R : ι → Prop} {S : A → β → Prop} {T : β → Prop} {t : TA} (a : ι → A) (h : EvX K G t (fun i => args (a i)) R) (hp : ∀ i, R i → pre (a i)) (hT : ∀ i, R i → ∀ y, S (a i) y → T y) :
    EvP K G (tCall (spR args pre (fun a => RetP (S a)) K) [] X t) T := fun H0 Hs H σ E e Q q =>
  h H0 Hs H σ E e _ fun i vs Hs1 H1 g1 hR r1 => ⟨Hs1, a i, g1.sub, by rw [List.append_nil]; exact r1, hp i hR, fun v Hs2 H2 g2 ⟨y, ry, hS⟩ => q v y Hs2 H2 (g1.trans g2) (hT i hR y hS) ry⟩
theorem st_appP {R : α → Prop} {l : List α} {i : Nat} (hi : G[i]? = some (ownS l)) (h : EvP K G te R) (hl : l.length < 100000) (k : ∀ x, R x → D.nx (G.set i (ownS (l ++ [x])))) :
    StD K G (tDrop (tBM K "list" rAppend (tVar i) (tCons te tNil))) D := fun Hs0 H0 Hs H σ E e g0 De p => by
  obtain ⟨a, vs, ha, h1, _, _, r⟩ := e.owned hi
  refine ⟨.ref a, ha, .inl ⟨rfl, vs, .inl (.inl h1)⟩, h H0 Hs H σ E e _ fun v x Hs1 H1 g1 hR r1 => ?_⟩
  have e1 := e.grow g1
  obtain ⟨a', vs', ha', h1', z1, z2, r'⟩ := e1.owned hi
  rw [ha] at ha'
  cases ha'
  exact ⟨a, vs', v, rfl, rfl, h1', Nat.lt_of_lt_of_le (by rw [r'.len]; exact hl) (show 100000 ≤ sizeLine by decide), p.nx _ _ Hs1 _ (k x hR) (e1.mutO hi ha (r'.app ⟨r1, trivial⟩)) (grow_mut (g0.trans g1) z1 z2)⟩
theorem st_asgP {R : α → Prop} {g : TG} (h : EvP K G te R) (k : ∀ x, R x → ∃ G', GD K G g x G' ∧ D.nx G') : StD K G (tAsg te g) D := fun Hs0 H0 Hs H σ E e g0 De p =>
  h H0 Hs H σ E e _ fun v x Hs1 H1 g1 hR r1 => by
    obtain ⟨G', hg, hk⟩ := k x hR
    exact hg H0 Hs1 H1 σ E v (e.grow g1) r1 _ fun σ' e' => p.nx G' σ' Hs1 H1 hk e' (g0.trans g1)
end
end BB

/-! the law's data -/
namespace BB
open PySem PySem.Spec L2
variable {P : Program} {w : World} {K : KF} {mg : Str → Option Value} {base : Heap} {aZ aO : Addr}
/-- data as the law draws them -/
structure LD (x : T3 Nat (List Buy) (List Link)) : Prop where
  g0 : 0 < x.a
  g4 : x.a ≤ 4
  len : x.b.length ≤ 5
  buys : ∀ b ∈ x.b, BuyP x.a b
  links : LinksOk x.b.length x.c
  ll : x.c.length ≤ 4
theorem goods_of {j : Nat} (h : j < 6) : ∃ g : Nat, ([2, 1, 2, 3, 3, 4] : List Int).getD j default = (g : Int) ∧ 0 < g ∧ g ≤ 4 := by
  match j, h with
  | 0, _ => exact ⟨2, rfl, by decide, by decide⟩
  | 1, _ => exact ⟨1, rfl, by decide, by decide⟩
  | 2, _ => exact ⟨2, rfl, by decide, by decide⟩
  | 3, _ => exact ⟨3, rfl, by decide, by decide⟩
  | 4, _ => exact ⟨3, rfl, by decide, by decide⟩
  | 5, _ => exact ⟨4, rfl, by decide, by decide⟩
  | n + 6, h => omega
theorem nat_of {i m : Int} (hm : 0 < m) : ∃ n : Nat, i % m = (n : Int) ∧ (n : Int) < m := ⟨(i % m).toNat, by have := mixU (i := i) hm; omega, by have := mixU (i := i) hm; omega⟩
theorem links_add {n : Nat} {ls : List Link} {l : Link} (h : LinksOk n ls) (ha : l.a < n) (hb : l.b < n) : LinksOk n (ls ++ [l]) := fun x hx => by
  rcases List.mem_append.mp hx with z | z
  · exact h x z
  · rw [List.mem_singleton.mp z]; exact ⟨ha, hb⟩
theorem rowPre {sc : Scr} {pl n : Nat} (h : SmS sc) (h1 : pl ≤ 20) (h2 : n ≤ 40) : (fun a : Scr × Nat × Nat => SmS a.1 ∧ a.2.1 ≤ 20 ∧ a.2.2 ≤ 40) (sc, pl, n) := ⟨h, h1, h2⟩
abbrev sp__law_data := spR (A := Scr × Nat × Nat × Nat) (fun a => [dyn a.1, dyn a.2.1, dyn a.2.2.1, dyn a.2.2.2]) (fun a => SmS a.1 ∧ a.2.1 = 0 ∧ a.2.2.1 = 5 ∧ a.2.2.2 = 4) (fun _ => RetP LD)
abbrev s__law_data : Stmt := topS 43
abbrev N__law_data : List Str := ["_law_script", "_law_place", "_law_most", "_law_linked", "_law_shape", "_law_goods", "_law_count", "_law_buys", "_law_i", "_law_kind_here", "_law_links", "_law_row_here", "_law_k"]
theorem sc__law_data : FnScope N__law_data ["_law_script", "_law_place", "_law_most", "_law_linked"] (defScope s__law_data) := ⟨rfl, rfl, rfl, by decide +kernel, rfl, by decide +kernel, by decide +kernel⟩

theorem ok__law_data {f : Addr} {fd : FuncData} (F : Fun K "_law_data" "_law_data" s__law_data f fd) (B : Bi P mg base) (C_law_row : Cal P w K mg base 40 "_law_row" ["_law_script", "_law_place", "_law_many"] (sp__law_row K)) (C_law_purchase : Cal P w K mg base 42 "_law_purchase" ["_law_row_here", "_law_shape", "_law_goods", "_law_kind_here"] (sp__law_purchase K)) : FnOk P w K mg base CX0 43 f fd ["_law_script", "_law_place", "_law_most", "_law_linked"] (sp__law_data K) :=
  fn_st F sc__law_data (fun _ => rfl) fun cdv A' outer s H E hr => ⟨_,
(pss_cons (ps_set (i := 4) sc__law_data.nd rfl (.inl rfl) (pe_cal C_law_row (hr.mono (by decide)) (by rfl) (pa_cons (pv 0) (pa_cons (pv 1) (pa_cons pe_int pa_nil)))))
(pss_cons (ps_set (i := 5) sc__law_data.nd rfl (.inl rfl) (pe_ix ix_list (pe_lst (pa_cons pe_int (pa_cons pe_int (pa_cons pe_int (pa_cons pe_int (pa_cons pe_int (pa_cons pe_int pa_nil))))))) (pe_op op_mod (pe_callTy call_int1 (by rfl) B.int (by decide +kernel) (pa_cons (pe_ix ix_list (pv 4) pe_int (fun _ _ => rfl)) pa_nil)) pe_int) (fun _ _ => rfl)))
(pss_cons (ps_set (i := 6) sc__law_data.nd rfl (.inl rfl) (pe_op op_mod (pe_callTy call_int1 (by rfl) B.int (by decide +kernel) (pa_cons (pe_ix ix_list (pv 4) pe_int (fun _ _ => rfl)) pa_nil)) (pe_op op_add (pv 2) pe_int)))
(pss_cons (ps_set (i := 7) sc__law_data.nd rfl (.inl rfl) (pe_lst pa_nil))
(pss_cons (ps_for PassesOwn.never rfl (pi_range1 (by rfl) B.range (pa_cons (pv 6) pa_nil)) (pg_name (i := 8) sc__law_data.nd rfl (.inl rfl))
(pss_cons (ps_set (i := 9) sc__law_data.nd rfl (.inl rfl) (pe_ix ix_list (pe_lst (pa_cons pe_int (pa_cons pe_int (pa_cons pe_int (pa_cons pe_int (pa_cons pe_int (pa_cons pe_int (pa_cons pe_int (pa_cons pe_int pa_nil))))))))) (pe_op op_mod (pe_callTy call_int1 (by rfl) B.int (by decide +kernel) (pa_cons (pe_ix ix_list (pv 4) pe_int (fun _ _ => rfl)) pa_nil)) pe_int) (fun _ _ => rfl)))
(pss_one (ps_expr (pe_bm PySem.F.plainAttrs_list PySem.F.slot_list_append PySem.F.type_list_append mt_append (pv 7) (pa_cons (pe_cal C_law_purchase (hr.mono (by decide)) (by rfl) (pa_cons (pe_cal C_law_row (hr.mono (by decide)) (by rfl) (pa_cons (pv 0) (pa_cons (pe_op op_add (pe_op op_add (pv 1) pe_int) (pv 8)) (pa_cons pe_int pa_nil)))) (pa_cons (pv 4) (pa_cons (pv 5) (pa_cons (pv 9) pa_nil))))) pa_nil))))))
(pss_cons (ps_set (i := 10) sc__law_data.nd rfl (.inl rfl) (pe_lst pa_nil))
(pss_cons (ps_set (i := 11) sc__law_data.nd rfl (.inl rfl) (pe_cal C_law_row (hr.mono (by decide)) (by rfl) (pa_cons (pv 0) (pa_cons (pe_op op_add (pv 1) pe_int) (pa_cons pe_int pa_nil)))))
(pss_cons (ps_if (pt_cmpR op_gt (pv 6) pe_int (nomark _))
(pss_one (ps_for PassesOwn.never rfl (pi_range1 (by rfl) B.range (pa_cons (pe_op op_mod (pe_callTy call_int1 (by rfl) B.int (by decide +kernel) (pa_cons (pe_ix ix_list (pv 4) pe_int (fun _ _ => rfl)) pa_nil)) (pe_op op_add (pv 3) pe_int)) pa_nil)) (pg_name (i := 12) sc__law_data.nd rfl (.inl rfl))
(pss_one (ps_expr (pe_bm PySem.F.plainAttrs_list PySem.F.slot_list_append PySem.F.type_list_append mt_append (pv 10) (pa_cons (pe_tup (pa_cons (pe_op op_mod (pe_callTy call_int1 (by rfl) B.int (by decide +kernel) (pa_cons (pe_ix ix_list (pv 11) (pe_op op_mulA pe_int (pv 12)) (fun _ _ => rfl)) pa_nil)) (pv 6)) (pa_cons (pe_op op_mod (pe_callTy call_int1 (by rfl) B.int (by decide +kernel) (pa_cons (pe_ix ix_list (pv 11) (pe_op op_add (pe_op op_mulA pe_int (pv 12)) pe_int) (fun _ _ => rfl)) pa_nil)) (pv 6)) (pa_cons (pe_cmpR op_eq (pe_op op_mod (pe_callTy call_int1 (by rfl) B.int (by decide +kernel) (pa_cons (pe_ix ix_list (pv 11) (pe_op op_add (pe_op op_mulA pe_int (pv 12)) pe_int) (fun _ _ => rfl)) pa_nil)) pe_int) pe_int (nomark _)) pa_nil)))) pa_nil))))))
pss_nil)
(pss_one (ps_ret (pe_tup (pa_cons (pv 5) (pa_cons (pv 7) (pa_cons (pv 10) pa_nil)))))))))))))), 
fun ⟨sc, pl, mo, li⟩ hp => by
    show StD K [pureS sc, pureS pl, pureS mo, pureS li, none, none, none, none, none, none, none, none, none] _ _
    obtain ⟨hs, rfl, rfl, rfl⟩ : SmS sc ∧ pl = 0 ∧ mo = 5 ∧ li = 4 := hp
    refine st_seq (st_setP (evp_call (sc, 0, 9) (eva_cons (evd_var (x := sc) rfl) (eva_cons (evd_var (x := 0) rfl) (eva_cons (evd_nat (i := 9)) eva_nil))) (rowPre hs (by decide) (by decide))) fun sh hsh => ?_)
    have hsh : RowR 9 sh := hsh
    have hsl := hsh.len
    obtain ⟨j, hj, hj6⟩ := nat_of (i := sh.getD 0 default) (m := 6) (by decide)
    obtain ⟨g, hg, hg0, hg4⟩ := goods_of (j := j) (by omega)
    obtain ⟨n, hn, hn6⟩ := nat_of (i := sh.getD 1 default) (m := 6) (by decide)
    refine st_seq (st_set (x := g) (EvD.nat (ixN (EvN.l (evn_lst (evi_cons evd_int (evi_cons evd_int (evi_cons evd_int (evi_cons evd_int (evi_cons evd_int (evi_cons evd_int evi_nil)))))) (by simp))) (evd_mod (evd_intc (evd_ix (EvD.l (evd_var (x := sh) rfl)) (evd_nat (i := 0)) (by omega))) evd_int (by decide)) hj (by show j < 6; omega)) hg) ?_)
    refine st_seq (st_set (x := n) (EvD.nat (evd_mod (evd_intc (evd_ix (EvD.l (evd_var (x := sh) rfl)) (evd_nat (i := 1)) (by omega))) (evd_add (EvD.int (evd_var (x := 5) rfl)) evd_int) (by decide)) hn) ?_)
    refine st_seq (st_own (evn_nil (α := Buy)) ?_)
    refine st_seq (st_forR (fun i G' => ∃ bs s8 s9, G' = [pureS sc, pureS 0, pureS 5, pureS 4, pureS sh, pureS g, pureS n, ownS bs, s8, s9, none, none, none] ∧ bs.length = i ∧ ∀ b ∈ bs, BuyP g b) (evd_var (x := n) rfl) (by omega) ⟨_, _, _, rfl, rfl, fun _ h => nomatch h⟩ (fun i G' hi hI => ?_) fun G' hI => ?_)
    · obtain ⟨bs, s8, s9, rfl, hl, hb⟩ := hI
      obtain ⟨j2, hj2, hj8⟩ := nat_of (i := sh.getD 2 default) (m := 8) (by decide)
      refine st_seq (st_set (ixN (EvN.l (evn_lst (evi_cons evd_int (evi_cons evd_int (evi_cons evd_int (evi_cons evd_int (evi_cons evd_int (evi_cons evd_int (evi_cons evd_int (evi_cons evd_int evi_nil)))))))) (by simp))) (evd_mod (evd_intc (evd_ix (EvD.l (evd_var (x := sh) rfl)) (evd_nat (i := 2)) (by omega))) evd_int (by decide)) hj2 (by show j2 < 8; omega)) ?_)
      show StD K [pureS sc, pureS 0, pureS 5, pureS 4, pureS sh, pureS g, pureS n, ownS bs, pureS i, pureS (([0, 1, 2, 4, 0, 1, 2, 3] : List Int).getD j2 default), none, none, none] _ _
      generalize ([0, 1, 2, 4, 0, 1, 2, 3] : List Int).getD j2 default = kd
      refine st_appP rfl (evp_callX (T := BuyP g) (fun r => (r, sh, g, kd)) (evx_head (evp_call (sc, 0 + 1 + i, 33) (eva_cons (evd_var (x := sc) rfl) (eva_cons (EvD.nat (n := 0 + 1 + i) (evd_add (evd_add (EvD.int (evd_var (x := 0) rfl)) evd_int) (EvD.int (evd_var (x := i) rfl))) (by omega)) (eva_cons (evd_nat (i := 33)) eva_nil))) (rowPre hs (show 0 + 1 + i ≤ 20 by omega) (by decide))) (eva_cons (evd_var (x := sh) rfl) (eva_cons (evd_var (x := g) rfl) (eva_cons (evd_var (x := kd) rfl) eva_nil)))) (fun r hr => ⟨hr, hsh, hg0, hg4⟩) (fun r hr b hb => hb)) (by omega) fun b hb' => ⟨_, _, _, rfl, by rw [List.length_append, hl]; rfl, fun x hx => ?_⟩
      rcases List.mem_append.mp hx with z | z
      · exact hb x z
      · rw [List.mem_singleton.mp z]; exact hb'
    · obtain ⟨bs, s8, s9, rfl, hl, hb⟩ := hI
      refine st_seq (st_own (evn_nil (α := Link)) ?_)
      refine st_seq (st_setP (evp_call (sc, 8, 18) (eva_cons (evd_var (x := sc) rfl) (eva_cons (EvD.nat (evd_add (EvD.int (evd_var (x := 0) rfl)) evd_int) rfl) (eva_cons (evd_nat (i := 18)) eva_nil))) (rowPre hs (by decide) (by decide))) fun r hr => ?_)
      have hr : RowR 18 r := hr
      have hrl := hr.len
      refine st_mid (fun G' => ∃ ls s12, G' = [pureS sc, pureS 0, pureS 5, pureS 4, pureS sh, pureS g, pureS n, ownS bs, s8, s9, ownS ls, pureS r, s12] ∧ LinksOk n ls ∧ ls.length ≤ 4) ?_ ?_
      · refine st_if (evb_test (evd_gt (EvD.int (evd_var (x := n) rfl)) evd_int)) (fun h => ?_) (fun h => st_next ⟨_, _, rfl, (fun _ h => nomatch h), by decide⟩)
        have h : (0 : Int) < n := of_decide_eq_true h
        obtain ⟨m, hm, hm5⟩ := nat_of (i := sh.getD 3 default) (m := 5) (by decide)
        refine st_forR (n := m) (fun k G' => ∃ ls s12, G' = [pureS sc, pureS 0, pureS 5, pureS 4, pureS sh, pureS g, pureS n, ownS bs, s8, s9, ownS ls, pureS r, s12] ∧ LinksOk n ls ∧ ls.length = k) (EvD.nat (evd_mod (evd_intc (evd_ix (EvD.l (evd_var (x := sh) rfl)) (evd_nat (i := 3)) (by omega))) (evd_add (EvD.int (evd_var (x := 4) rfl)) evd_int) (by decide)) hm) (by omega) ⟨_, _, rfl, (fun _ h => nomatch h), rfl⟩ (fun k G' hk hI => ?_) fun G' hI => ?_
        · obtain ⟨ls, s12, rfl, h1, h2⟩ := hI
          obtain ⟨a, ha, ha'⟩ := nat_of (i := r.getD (3 * k) default) h
          obtain ⟨b, hb2, hb'⟩ := nat_of (i := r.getD (3 * k + 1) default) h
          have mk : ∀ {G : GEnv}, G[12]? = some (pureS k) → EvD K G (tOp (rI IntMulOk fun i j => .int (i * j)) (tC (.int 3)) (tVar 12)) (3 * (k : Int)) := fun hG => evd_mul evd_int (EvD.int (evd_var hG)) (Fit.mulOk fit_c (fit_b (i := (k : Int)) (by omega) (by omega)) (by decide))
          refine st_app rfl (evd_tup3 (EvD.nat (n := a) (evd_mod (evd_intc (ixN (EvD.l (evd_var (x := r) rfl)) (mk rfl) (j := 3 * k) (by omega) (by omega))) (EvD.int (evd_var (x := n) rfl)) h) ha) (EvD.nat (n := b) (evd_mod (evd_intc (ixN (EvD.l (evd_var (x := r) rfl)) (evd_add (mk rfl) evd_int) (j := 3 * k + 1) (by omega) (by omega))) (EvD.int (evd_var (x := n) rfl)) h) hb2) (evd_eqI (evd_mod (evd_intc (ixN (EvD.l (evd_var (x := r) rfl)) (evd_add (mk rfl) evd_int) (j := 3 * k + 2) (by omega) (by omega))) evd_int (by decide)) evd_int)) (by omega) ⟨_, _, rfl, links_add h1 (by show a < n; omega) (by show b < n; omega), by rw [List.length_append, h2]; rfl⟩
        · obtain ⟨ls, s12, rfl, h1, h2⟩ := hI
          exact ⟨_, _, rfl, h1, by omega⟩
      · rintro G' ⟨ls, s12, rfl, h1, h2⟩
        refine st_freeze 7 rfl (st_freeze 10 rfl ?_)
        exact st_retP (EvD.p (R := fun x => x = T3.mk g bs ls) (evd_tup3 (evd_var rfl) (evd_var rfl) (evd_var rfl)) rfl) rfl fun x hx => by
          rw [hx]
          exact ⟨hg0, hg4, by show bs.length ≤ 5; omega, hb, by show LinksOk bs.length ls; rw [hl]; exact h1, h2⟩
⟩
end BB

/-! an object as it is made -/
namespace BB
open PySem PySem.Spec L2
/-- a new object with these fields -/
def insK (x C dx : Addr) (fs : List (Str × Dyn)) : SlotK :=
  ⟨fun K Hs H v F => ∃ us : List (Str × V), v = .ref x ∧ F = [x] ∧ H x = some (.ins C dx us) ∧ All2 (fun u f => u.1 = f.1 ∧ f.2.rep K Hs u.2) us fs,
    fun {K Hs Hs' H H' v F} e f ⟨us, h1, h2, h3, h4⟩ => ⟨us, h1, h2, by rw [f x (by rw [h2]; simp)]; exact h3, h4.imp fun _ _ h => ⟨h.1, Dyn.mono _ e h.2⟩⟩⟩
theorem put_new {K : KF} {Hs : Hp} {f : Str} {y : V} : ∀ {us : List (Str × V)} {fs : List (Str × Dyn)}, All2 (fun u f => u.1 = f.1 ∧ f.2.rep K Hs u.2) us fs → (∀ p ∈ fs, p.1 ≠ f) → putF f y us = us ++ [(f, y)]
  | [], [], _, _ => rfl
  | (g, z) :: us, (g', d) :: fs, h, hn => by
    have e : g = g' := h.1.1
    have n : g' ≠ f := hn _ List.mem_cons_self
    show (if g = f then _ else _) = _
    rw [if_neg (e ▸ n), put_new h.2 fun p hp => hn p (List.mem_cons_of_mem _ hp)]
    rfl
  | [], _ :: _, h, _ => h.elim
  | _ :: _, [], h, _ => h.elim
section
variable {α : Type} [Rep α] {K : KF} {G : GEnv} {tv : TE} {D : Post} {x C dx : Addr} {fs : List (Str × Dyn)} {f : Str} {i : Nat}
theorem st_fld {y : α} (hi : G[i]? = some (some (insK x C dx fs))) (h : EvD K G tv y) (hC : Cls K C) (hN : NoAttr K C f) (hl : fs.length < 1000) (hn : ∀ p ∈ fs, p.1 ≠ f) (q : D.nx (G.set i (some (insK x C dx (fs ++ [(f, dyn y)]))))) :
    StD K G (sFld K (tVar i) tv f) D := fun Hs0 H0 Hs H σ E e g0 De p =>
  h H0 Hs H σ E e _ fun v Hs1 H1 g1 r1 => by
    have e1 := e.grow g1
    obtain ⟨w, F, hw, ⟨us, rfl, hF, hx, hr⟩, hz⟩ := e1.own1 hi
    obtain ⟨z1, z2⟩ := hz x (by rw [hF]; simp)
    refine ⟨.ref x, hw, x, C, dx, us, rfl, hx, hC, hN, by rw [hr.len]; exact hl, ?_⟩
    rw [put_new hr hn]
    refine p.nx _ _ Hs1 _ q (e1.mutX hi (fun F hF => ?_) hw ⟨_, rfl, rfl, upd_same, hr.app ⟨⟨rfl, r1⟩, trivial⟩⟩) (grow_mut (g0.trans g1) z1 z2)
    obtain ⟨us', _, hF', _⟩ := hF
    exact hF'
end
def remH (H : Hp) (x : Addr) : Hp := fun a => if a = x then none else H a
theorem rem_ne {H : Hp} {x a : Addr} (h : a ≠ x) : remH H x a = H a := if_neg h
theorem rem_at {H : Hp} {x : Addr} : remH H x x = none := if_pos rfl
theorem rem_same {H : Hp} {x : Addr} : Same (remH H x) H := fun a u h => by
  by_cases z : a = x
  · subst z; rw [rem_at] at h; cases h
  · rw [rem_ne z] at h; exact h
/-- the promise of an __init__: it sets these fields -/
def spI {A : Type} (args : A → List Dyn) (pre : A → Prop) (fs : A → List (Str × Dyn)) (C : Addr) (K : KF) : Sp := fun vs H Q _ => ∃ x dx Hs a us, vs = .ref x :: us ∧ H x = some (.ins C dx []) ∧ Hs x = none ∧ Same Hs H ∧ RepL K Hs us (args a) ∧ pre a ∧
  ∀ Hs' H' ws, Grow Hs (remH H x) Hs' H' → Hs' x = none → H' x = some (.ins C dx ws) → All2 (fun (u : Str × V) (f : Str × Dyn) => u.1 = f.1 ∧ f.2.rep K Hs' u.2) ws (fs a) → Q .non H'
section
variable {P : Program} {w : World} {K : KF} {mg : Str → Option Value} {base : Heap}
theorem env_init {Hs H : Hp} {x C dx : Addr} {us : List V} {ds : List Dyn} {n : Nat} (hx : H x = some (.ins C dx [])) (hs : Hs x = none) (e : Same Hs H) (r : RepL K Hs us ds) :
    EnvOk K (remH H x) Hs H (some (.ref x) :: (us.map some ++ List.replicate n none)) (some (insK x C dx []) :: (ds.map dynS ++ List.replicate n none)) [] := by
  have e0 := env_start (K := K) (n := n) e r
  refine ⟨rem_same, e, by simp [r.len], fun i => if i = 0 then [x] else [], fun i j a hi hj => ?_, fun _ _ _ h => (nomatch h), fun a ha => ?_, fun i k hk => ?_⟩
  · by_cases zi : i = 0 <;> by_cases zj : j = 0
    · rw [zi, zj]
    · simp [zj] at hj
    · simp [zi] at hi
    · simp [zi] at hi
  · rcases ha with ha | ⟨i, ha⟩
    · cases ha
    · by_cases zi : i = 0
      · simp only [zi, if_pos] at ha
        have ha := List.mem_singleton.mp ha
        subst ha
        exact ⟨hs, rem_at, by rw [hx]; simp⟩
      · simp [zi] at ha
  · cases i with
    | zero =>
      have hk : insK x C dx [] = k := by simpa using hk
      subst hk
      exact ⟨.ref x, rfl, [], rfl, by simp, hx, trivial⟩
    | succ i =>
      obtain ⟨_, _, _, F, _, _, _, f4⟩ := e0
      obtain ⟨v, hv, hp⟩ := f4 i k (by simpa using hk)
      refine ⟨v, by simpa using hv, ?_⟩
      by_cases hi : i < ds.length
      · have hk2 : (ds.map dynS ++ List.replicate n none)[i]? = some (some k) := by simpa using hk
        rw [List.getElem?_append_left (by simpa using hi), List.getElem?_map, List.getElem?_eq_getElem hi] at hk2
        have : k = (⟨fun K Hs _ v _ => ds[i].rep K Hs v, fun e _ h => ds[i].mono e h⟩ : SlotK) := (Option.some.inj (Option.some.inj hk2)).symm
        subst this
        exact hp
      · have hk2 : (ds.map dynS ++ List.replicate n none)[i]? = some (some k) := by simpa using hk
        rw [List.getElem?_append_right (by simpa using hi), List.getElem?_replicate] at hk2
        split at hk2 <;> cases hk2
/-- THE RULE for an __init__ -/
theorem fn_init {A : Type} {args : A → List Dyn} {pre : A → Prop} {fs : A → List (Str × Dyn)} {C : Addr} {x qual : Str} {st : Stmt} {f : Addr} {fd : FuncData} {N ps : List Str} {k : Nat} (F : Fun K x qual st f fd) (S : FnScope N ps (defScope st)) (hl : ∀ a, (args a).length + 1 = ps.length)
    (hbody : ∀ (cdv : Value) (A' : Around) (outer : List Env) (s : Shared) (H : Hp) (E : XK), Room k (A'.deeper (PyProof.Rows.envOfC qual (defScope st) s.heap.objs.size f cdv)) →
      ∃ t, PSs (cxOf CX0 P w K mg base N qual (defScope st) f cdv A' outer s H E).nox (defBody st) t ∧ ∀ a x dx, pre a → StD K (some (insK x C dx []) :: ((args a).map dynS ++ List.replicate (N.length - ps.length) none)) t { nx := fun G' => G'[0]? = some (some (insK x C dx (fs a))), rt := fun _ _ _ _ _ => False }) :
    FnOk P w K mg base CX0 (k + 1) f fd ps (spI args pre fs C K) := by
  refine F.ok S (fun vs H Q E h => ?_) (fun cdv A' outer s H vs Q E hr h => ?_)
  · obtain ⟨x, dx, Hs, a, us, rfl, _, _, _, r1, _⟩ := h
    rw [← hl a, List.length_cons, r1.len]
  · obtain ⟨x, dx, Hs, a, us, rfl, hx, hs, e, r1, hp, q⟩ := h
    obtain ⟨t, ht, hst⟩ := hbody cdv A' outer s H E hr
    refine ⟨t, ht, ?_⟩
    have hvl : (V.ref x :: us).length = ps.length := by rw [← hl a, List.length_cons, r1.len]
    have e0 := env_init (n := N.length - ps.length) hx hs e r1
    unfold L2.start
    rw [hvl]
    have g0 : Grow Hs (remH H x) Hs H := ⟨Same.refl _, rem_same, e, fun _ _ h => .inl h⟩
    refine hst a x dx hp Hs (remH H x) Hs H _ [] e0 g0 _ ⟨fun G' σ' Hs' H' z e' g => ?_, fun v Hs' H' g z => z.elim, fun _ _ _ _ z => z.elim, fun _ _ _ _ z => z.elim⟩
    obtain ⟨v, F', hv, ⟨ws, rfl, hF, hw, hr'⟩, hz⟩ := e'.own1 z
    exact q Hs' H' ws g (hz x (by rw [hF]; simp)).1 hw hr'
/-- C(..) -/
theorem evd_make {α : Type} [Rep α] {A : Type} {args : A → List Dyn} {pre : A → Prop} {fs : A → List (Str × Dyn)} {C : Addr} {G : GEnv} {t : TA} {X : XK} {y : α} (a : A) (h : EvA K G t (args a)) (hp : pre a)
    (hy : ∀ (x dx : Addr) (Hs : Hp) (ws : List (Str × V)), Hs x = some (.ins C dx ws) → All2 (fun (u : Str × V) (f : Str × Dyn) => u.1 = f.1 ∧ f.2.rep K Hs u.2) ws (fs a) → Rep.rep K Hs (.ref x) y) :
    EvD K G (tMake C (spI args pre fs C K) [] X t) y := fun H0 Hs H σ E e Q q =>
  h H0 Hs H σ E e _ fun vs Hs1 H1 g1 r1 => fun x dx nx nd ne => by
    have nn : ∀ b u, H1 b = some u → (upd (upd H1 dx (.own x)) x (.ins C dx [])) b = some u := fun b u hb => by
      rw [upd_ne (ne_of_none hb nx), upd_ne (ne_of_none hb nd)]
      exact hb
    refine ⟨x, dx, Hs1, a, vs, by rw [List.append_nil], upd_same, g1.sub.free nx, g1.sub.trans nn, r1, hp, fun Hs' H' ws g z1 z2 z3 => ⟨rfl, ?_⟩⟩
    have sm : Same Hs' (upd Hs' x (.ins C dx ws)) := same_new z1
    refine q (.ref x) (upd Hs' x (.ins C dx ws)) H' (g1.trans ⟨g.s.trans sm, fun b u hb => g.h b u ?_, fun b u hb => ?_, fun b o hb => ?_⟩) ?_
    · rw [rem_ne (ne_of_none hb nx)]
      exact nn b u hb
    · by_cases z : b = x
      · subst z
        rw [upd_same] at hb
        rw [z2]; exact hb
      · rw [upd_ne z] at hb
        exact g.sub b u hb
    · by_cases z : b = x
      · subst z
        exact .inr nx
      · rw [upd_ne z] at hb
        rcases g.new b o hb with y | y
        · exact .inl y
        · refine .inr ?_
          rw [rem_ne z, upd_ne z] at y
          by_cases z' : b = dx
          · rw [z']; exact nd
          · rwa [upd_ne z'] at y
    · exact hy x dx _ ws upd_same (z3.imp fun _ _ h => ⟨h.1, Dyn.mono _ sm h.2⟩)
end
end BB

/-! the data made -/
namespace BB
open PySem PySem.Spec L2
variable {P : Program} {w : World} {K : KF} {mg : Str → Option Value} {base : Heap} {aZ aO : Addr}
theorem boot_ls : bootBuiltins "list" = some (.type "list") := by decide +kernel
abbrev s_Data : Stmt := inClass (topS 14) 0
abbrev N_Data : List Str := ["self", "goods", "buys", "links", "prices", "amounts"]
theorem sc_Data : FnScope N_Data ["self", "goods", "buys", "links"] (defScope s_Data) := ⟨rfl, rfl, rfl, by decide +kernel, rfl, by decide +kernel, by decide +kernel⟩
structure SmD (a : Nat × List Buy × List Link) : Prop where
  l1 : a.2.1.length < 100000
  l2 : a.2.2.length < 100000
theorem map_id2 {l : List Buy} : (l.map fun b => (b.1, b.2)) = l := by
  induction l with
  | nil => rfl
  | cons a l ih => rw [List.map_cons, ih]
abbrev sp_Data (C : Addr) := spI (A := Nat × List Buy × List Link) (fun a => [dyn a.1, dyn a.2.1, dyn a.2.2]) SmD (fun a => [("goods", dyn a.1), ("buys", dyn a.2.1), ("links", dyn a.2.2)]) C
theorem ok_Data {f C : Addr} {fd : FuncData} (F : Fun K "__init__" "Data.__init__" s_Data f fd) (B : Bi P mg base) (Z : Zd K mg C) : FnOk P w K mg base CX0 40 f fd ["self", "goods", "buys", "links"] (sp_Data C K) :=
  fn_init F sc_Data (fun _ => rfl) fun cdv A' outer s H E hr => ⟨_,
    pss_cons (ps_fld (pv 0) (pv 1) rfl)
    (pss_cons (ps_fld (pv 0) (pe_lc (own := [("prices", 4), ("amounts", 5)]) (g := gTup K 2 (gCons (gName 4) (gCons (gName 5) gNil))) (tt := tYes) rfl sc_Data.nd (pi_list (pv 2)) (blkOk_by (N := N_Data) (sc := defScope s_Data) (by decide +kernel)) (fun _ _ _ _ _ => pg_tup rfl (pgs_cons (pg_name (i := 4) sc_Data.nd rfl (.inl rfl)) (pgs_cons (pg_name (i := 5) sc_Data.nd rfl (.inl rfl)) pgs_nil))) (fun _ _ _ _ _ => pts_nil)
      (fun _ _ _ _ _ => pe_tup (pa_cons (pe_callTy call_list_of (by rfl) B.list boot_ls (pa_cons (pv 4) pa_nil)) (pa_cons (pe_callTy call_list_of (by rfl) B.list boot_ls (pa_cons (pv 5) pa_nil)) pa_nil)))) rfl)
    (pss_one (ps_fld (pv 0) (pe_callTy call_list_of (by rfl) B.list boot_ls (pa_cons (pv 3) pa_nil)) rfl))), fun a x dx hp => by
    obtain ⟨g, bs, ls⟩ := a
    obtain ⟨h1, h2⟩ := hp
    show StD K [some (insK x C dx []), pureS g, pureS bs, pureS ls, none, none] _ _
    refine st_seq (st_fld (i := 0) rfl (evd_var (x := g) rfl) Z.cl Z.n1 (by decide) (fun _ h => nomatch h) ?_)
    refine st_seq (st_fld (i := 0) rfl (y := bs) ((EvN.d (evn_lcP (fun b => (b.1, b.2)) (EvD.l (evd_var (x := bs) rfl)) h1 (by decide) (by decide) (fun i b hb => evd_tup2 (EvN.d (evn_list (EvD.l (evd_var (x := b.1) rfl)))) (EvN.d (evn_list (EvD.l (evd_var (x := b.2) rfl))))))).to map_id2) Z.cl Z.n2 (by simp) (by simp; decide) ?_)
    refine st_fld (i := 0) rfl (EvN.d (evn_list (EvD.l (evd_var (x := ls) rfl)))) Z.cl Z.n3 (by simp) (by simp; decide) ?_
    rfl⟩
theorem rep_data {C x dx : Addr} {Hs : Hp} {ws : List (Str × V)} {g : Nat} {bs : List Buy} {ls : List Link} (Z : Zd K mg C) (hx : Hs x = some (.ins C dx ws)) (h : All2 (fun (u : Str × V) (f : Str × Dyn) => u.1 = f.1 ∧ f.2.rep K Hs u.2) ws [("goods", dyn g), ("buys", dyn bs), ("links", dyn ls)]) :
    Rep.rep K Hs (.ref x) (DataM.mk g bs ls) := by
  match ws, h with
  | [(a1, u1), (a2, u2), (a3, u3)], h =>
    obtain ⟨⟨e1, r1⟩, ⟨e2, r2⟩, ⟨e3, r3⟩, _⟩ := h
    have e1 : a1 = "goods" := e1
    have e2 : a2 = "buys" := e2
    have e3 : a3 = "links" := e3
    subst e1 e2 e3
    exact ⟨x, C, dx, _, u1, u2, u3, rfl, hx, Z.cl, Z.n1, Z.n2, Z.n3, rfl, rfl, rfl, r1, r2, r3⟩
abbrev sp__law_made := sp3 (fun (_ : Nat) (bs : List Buy) (ls : List Link) => bs.length < 100000 ∧ ls.length < 100000) (fun g bs ls => DataM.mk g bs ls)
abbrev s__law_made : Stmt := topS 44
abbrev N__law_made : List Str := ["_law_goods", "_law_buys", "_law_links", "_law_one"]
theorem sc__law_made : FnScope N__law_made ["_law_goods", "_law_buys", "_law_links"] (defScope s__law_made) := ⟨rfl, rfl, rfl, by decide +kernel, rfl, by decide +kernel, by decide +kernel⟩

theorem ok__law_made {f : Addr} {fd : FuncData} (F : Fun K "_law_made" "_law_made" s__law_made f fd) (B : Bi P mg base) {C fI : Addr} {fdI : FuncData} (Z : Zd K mg C) (M : L2.Mk K C fI) (GI : FnOk P w K mg base CX0 40 fI fdI ["self", "goods", "buys", "links"] (sp_Data C K)) (bI : Binds K fdI ["self", "goods", "buys", "links"] []) : FnOk P w K mg base CX0 51 f fd ["_law_goods", "_law_buys", "_law_links"] (sp__law_made K) :=
  fn_st F sc__law_made (fun _ => rfl) fun cdv A' outer s H E hr => ⟨_,
(pss_one (ps_ret (pe_make M GI (hr.mono (by decide)) (by rfl) Z.mC bI .nil pass0 (pa_cons (pv 0) (pa_cons (pe_lc (own := [("_law_one", 3)]) (g := gName 3) (tt := tYes) rfl sc__law_made.nd (pi_list (pv 1)) (blkOk_by (N := N__law_made) (sc := defScope s__law_made) (by decide +kernel)) (fun _ _ _ _ _ => (pg_name (i := 3) sc__law_made.nd rfl (.inl rfl))) (fun _ _ _ _ _ => pts_nil) (fun _ _ _ _ _ => (pe_tup (pa_cons (pe_callTy call_list_of (by rfl) B.list boot_ls (pa_cons (pe_ix ix_tup (pv 3) pe_int (fun _ _ => rfl)) pa_nil)) (pa_cons (pe_callTy call_list_of (by rfl) B.list boot_ls (pa_cons (pe_ix ix_tup (pv 3) pe_int (fun _ _ => rfl)) pa_nil)) pa_nil))))) (pa_cons (pe_callTy call_list_of (by rfl) B.list boot_ls (pa_cons (pv 2) pa_nil)) pa_nil)))))), 
fun ⟨g, bs, ls⟩ hp => by
    show StD K [pureS g, pureS bs, pureS ls, none] _ _
    obtain ⟨h1, h2⟩ : bs.length < 100000 ∧ ls.length < 100000 := hp
    refine st_ret (evd_make (y := DataM.mk g bs ls) (g, bs, ls) (eva_cons (evd_var (x := g) rfl) (eva_cons ((EvN.d (evn_lcL0 (fun b => (b.1, b.2)) (EvD.l (evd_var (x := bs) rfl)) h1 (by decide) (fun i b hb => evd_tup2 (EvN.d (evn_list (EvD.l (evd_fst (evd_var (x := b) rfl))))) (EvN.d (evn_list (EvD.l (evd_snd (evd_var (x := b) rfl)))))))).to map_id2) (eva_cons (EvN.d (evn_list (EvD.l (evd_var (x := ls) rfl)))) eva_nil))) ⟨h1, h2⟩ (fun x dx Hs ws hx h => rep_data Z hx h)) rfl rfl
⟩
end BB

/-! the law's own reckoning with fractions that are not reduced; its steps -/
namespace BB
open PySem PySem.Spec L2
variable {P : Program} {w : World} {K : KF} {mg : Str → Option Value} {base : Heap} {aZ aO : Addr}
/-- the pair is a fraction of this value, not too large -/
structure UV (n : Nat) (t : Int × Int) (r : Rat) : Prop where
  pos : 0 < t.2
  f1 : Fit n t.1
  f2 : Fit n t.2
  v : Rat.divInt t.1 t.2 = r
def addU (a b : Int × Int) : Int × Int := (a.1 * b.2 + b.1 * a.2, a.2 * b.2)
def mulU (a b : Int × Int) : Int × Int := (a.1 * b.1, a.2 * b.2)
def overU (a b : Int × Int) : Int := a.1 * b.2 - b.1 * a.2
def prU (r : Rat) : Int × Int := (r.num, (r.den : Int))
theorem UV.mono {n m : Nat} {a : Int × Int} {r : Rat} (h : UV n a r) (e : n ≤ m) : UV m a r := ⟨h.pos, h.f1.mono e, h.f2.mono e, h.v⟩
theorem UV.pr {n : Nat} {r : Rat} (h : FitR n r) : UV n (prU r) r := ⟨den_pos r, h.1, h.2, Rat.num_divInt_den r⟩
theorem UV.add {n m k : Nat} {a b : Int × Int} {r s : Rat} (ha : UV n a r) (hb : UV m b s) (h : n + m < k) : UV k (addU a b) (r + s) where
  pos := Int.mul_pos ha.pos hb.pos
  f1 := (ha.f1.mul hb.f2).add (hb.f1.mul ha.f2) h (by omega)
  f2 := (ha.f2.mul hb.f2).mono (by omega)
  v := by
    rw [← ha.v, ← hb.v, Rat.divInt_add_divInt _ _ (Int.ne_of_gt ha.pos) (Int.ne_of_gt hb.pos)]
    rfl
theorem UV.mul {n m k : Nat} {a b : Int × Int} {r s : Rat} (ha : UV n a r) (hb : UV m b s) (h : n + m ≤ k) : UV k (mulU a b) (r * s) where
  pos := Int.mul_pos ha.pos hb.pos
  f1 := (ha.f1.mul hb.f1).mono h
  f2 := (ha.f2.mul hb.f2).mono h
  v := by
    rw [← ha.v, ← hb.v, Rat.divInt_mul_divInt]
    rfl
theorem divInt_sgn {p q : Int} (hq : 0 < q) : (0 < Rat.divInt p q ↔ 0 < p) ∧ (Rat.divInt p q < 0 ↔ p < 0) ∧ (Rat.divInt p q = 0 ↔ p = 0) := by
  have neg : p < 0 → Rat.divInt p q < 0 := fun h => by
    have h1 := divInt_pos0 (p := -p) (by omega) hq
    rw [← Rat.neg_divInt] at h1
    grind
  have pos : 0 < p → 0 < Rat.divInt p q := fun h => divInt_pos0 h hq
  have zer : p = 0 → Rat.divInt p q = 0 := fun h => by rw [h, Rat.zero_divInt]
  rcases Int.lt_trichotomy p 0 with h | h | h
  · have := neg h
    refine ⟨⟨fun z => ?_, fun z => by omega⟩, ⟨fun _ => h, fun _ => this⟩, ⟨fun z => ?_, fun z => by omega⟩⟩ <;> grind
  · have := zer h
    refine ⟨⟨fun z => ?_, fun z => by omega⟩, ⟨fun z => ?_, fun z => by omega⟩, ⟨fun _ => h, fun _ => this⟩⟩ <;> grind
  · have := pos h
    refine ⟨⟨fun _ => h, fun _ => this⟩, ⟨fun z => ?_, fun z => by omega⟩, ⟨fun z => ?_, fun z => by omega⟩⟩ <;> grind
theorem UV.sgn {n : Nat} {a : Int × Int} {r : Rat} (h : UV n a r) : (a.1 < 0 ↔ r < 0) ∧ (a.1 ≤ 0 ↔ r ≤ 0) := by
  obtain ⟨h1, h2, _⟩ := divInt_sgn (p := a.1) h.pos
  rw [h.v] at h1 h2
  refine ⟨h2.symm, ?_⟩
  rw [← Int.not_lt, ← Rat.not_lt, h1]
theorem UV.over {n m : Nat} {a b : Int × Int} {r s : Rat} (ha : UV n a r) (hb : UV m b s) : (overU a b < 0 ↔ r < s) ∧ (overU a b = 0 ↔ r = s) := by
  have e : Rat.divInt (overU a b) (a.2 * b.2) = r - s := by
    rw [← ha.v, ← hb.v, Rat.divInt_sub_divInt _ _ (Int.ne_of_gt ha.pos) (Int.ne_of_gt hb.pos)]
    rfl
  obtain ⟨_, h2, h3⟩ := divInt_sgn (p := overU a b) (Int.mul_pos ha.pos hb.pos)
  rw [e] at h2 h3
  refine ⟨h2.symm.trans ?_, h3.symm.trans ?_⟩
  · constructor <;> intro h <;> grind
  · constructor <;> intro h <;> grind
abbrev s__law_add : Stmt := topS 51
abbrev N__law_add : List Str := ["_law_a", "_law_b"]
theorem sc__law_add : FnScope N__law_add ["_law_a", "_law_b"] (defScope s__law_add) := ⟨rfl, rfl, rfl, by decide +kernel, rfl, by decide +kernel, by decide +kernel⟩

abbrev s__law_mul : Stmt := topS 52
abbrev N__law_mul : List Str := ["_law_a", "_law_b"]
theorem sc__law_mul : FnScope N__law_mul ["_law_a", "_law_b"] (defScope s__law_mul) := ⟨rfl, rfl, rfl, by decide +kernel, rfl, by decide +kernel, by decide +kernel⟩

abbrev s__law_over : Stmt := topS 53
abbrev N__law_over : List Str := ["_law_a", "_law_b"]
theorem sc__law_over : FnScope N__law_over ["_law_a", "_law_b"] (defScope s__law_over) := ⟨rfl, rfl, rfl, by decide +kernel, rfl, by decide +kernel, by decide +kernel⟩

abbrev s__law_dot : Stmt := topS 45
abbrev N__law_dot : List Str := ["_law_a", "_law_b", "_law_total", "_law_k", "_law_q"]
theorem sc__law_dot : FnScope N__law_dot ["_law_a", "_law_b"] (defScope s__law_dot) := ⟨rfl, rfl, rfl, by decide +kernel, rfl, by decide +kernel, by decide +kernel⟩

abbrev s__law_gap : Stmt := topS 46
abbrev N__law_gap : List Str := ["_law_buys", "_law_i", "_law_basket", "_law_price", "_law_money"]
theorem sc__law_gap : FnScope N__law_gap ["_law_buys", "_law_i", "_law_basket"] (defScope s__law_gap) := ⟨rfl, rfl, rfl, by decide +kernel, rfl, by decide +kernel, by decide +kernel⟩

abbrev s__law_step : Stmt := topS 47
abbrev N__law_step : List Str := ["_law_buys", "_law_links", "_law_i", "_law_j", "_law_found", "_law_over_here", "_law_first", "_law_second", "_law_strict"]
theorem sc__law_step : FnScope N__law_step ["_law_buys", "_law_links", "_law_i", "_law_j"] (defScope s__law_step) := ⟨rfl, rfl, rfl, by decide +kernel, rfl, by decide +kernel, by decide +kernel⟩

abbrev s__law_steps : Stmt := topS 48
abbrev N__law_steps : List Str := ["_law_buys", "_law_links", "_law_j", "_law_i"]
theorem sc__law_steps : FnScope N__law_steps ["_law_buys", "_law_links"] (defScope s__law_steps) := ⟨rfl, rfl, rfl, by decide +kernel, rfl, by decide +kernel, by decide +kernel⟩

abbrev SmU (a : Int × Int) : Prop := Fit 40000000 a.1 ∧ Fit 40000000 a.2
theorem UV.sm {n : Nat} {a : Int × Int} {r : Rat} (h : UV n a r) (e : n ≤ 40000000) : SmU a := ⟨h.f1.mono e, h.f2.mono e⟩
abbrev sp__law_add := sp2 (fun a b => SmU a ∧ SmU b) addU
abbrev sp__law_mul := sp2 (fun a b => SmU a ∧ SmU b) mulU
abbrev sp__law_over := sp2 (fun a b => SmU a ∧ SmU b) overU
theorem ok__law_add {f : Addr} {fd : FuncData} (F : Fun K "_law_add" "_law_add" s__law_add f fd) (B : Bi P mg base) : FnOk P w K mg base CX0 40 f fd ["_law_a", "_law_b"] (sp__law_add K) :=
  fn_st F sc__law_add (fun _ => rfl) fun cdv A' outer s H E hr => ⟨_,
(pss_one (ps_ret (pe_tup (pa_cons (pe_op op_add (pe_op op_mulA (pe_ix ix_tup (pv 0) pe_int (fun _ _ => rfl)) (pe_ix ix_tup (pv 1) pe_int (fun _ _ => rfl))) (pe_op op_mulA (pe_ix ix_tup (pv 1) pe_int (fun _ _ => rfl)) (pe_ix ix_tup (pv 0) pe_int (fun _ _ => rfl)))) (pa_cons (pe_op op_mulA (pe_ix ix_tup (pv 0) pe_int (fun _ _ => rfl)) (pe_ix ix_tup (pv 1) pe_int (fun _ _ => rfl))) pa_nil))))), 
fun ⟨a, b⟩ hp => by
    show StD K [pureS a, pureS b] _ _
    obtain ⟨h1, h2⟩ : SmU a ∧ SmU b := hp
    exact st_ret (evd_tup2 (evd_add (evd_mul (evd_fst (evd_var (x := a) rfl)) (evd_snd (evd_var (x := b) rfl)) (sm_mul h1.1 h2.2)) (evd_mul (evd_fst (evd_var (x := b) rfl)) (evd_snd (evd_var (x := a) rfl)) (sm_mul h2.1 h1.2))) (evd_mul (evd_snd (evd_var (x := a) rfl)) (evd_snd (evd_var (x := b) rfl)) (sm_mul h1.2 h2.2))) rfl rfl
⟩
theorem ok__law_mul {f : Addr} {fd : FuncData} (F : Fun K "_law_mul" "_law_mul" s__law_mul f fd) (B : Bi P mg base) : FnOk P w K mg base CX0 40 f fd ["_law_a", "_law_b"] (sp__law_mul K) :=
  fn_st F sc__law_mul (fun _ => rfl) fun cdv A' outer s H E hr => ⟨_,
(pss_one (ps_ret (pe_tup (pa_cons (pe_op op_mulA (pe_ix ix_tup (pv 0) pe_int (fun _ _ => rfl)) (pe_ix ix_tup (pv 1) pe_int (fun _ _ => rfl))) (pa_cons (pe_op op_mulA (pe_ix ix_tup (pv 0) pe_int (fun _ _ => rfl)) (pe_ix ix_tup (pv 1) pe_int (fun _ _ => rfl))) pa_nil))))), 
fun ⟨a, b⟩ hp => by
    show StD K [pureS a, pureS b] _ _
    obtain ⟨h1, h2⟩ : SmU a ∧ SmU b := hp
    exact st_ret (evd_tup2 (evd_mul (evd_fst (evd_var (x := a) rfl)) (evd_fst (evd_var (x := b) rfl)) (sm_mul h1.1 h2.1)) (evd_mul (evd_snd (evd_var (x := a) rfl)) (evd_snd (evd_var (x := b) rfl)) (sm_mul h1.2 h2.2))) rfl rfl
⟩
theorem ok__law_over {f : Addr} {fd : FuncData} (F : Fun K "_law_over" "_law_over" s__law_over f fd) (B : Bi P mg base) : FnOk P w K mg base CX0 40 f fd ["_law_a", "_law_b"] (sp__law_over K) :=
  fn_st F sc__law_over (fun _ => rfl) fun cdv A' outer s H E hr => ⟨_,
(pss_one (ps_ret (pe_op op_sub (pe_op op_mulA (pe_ix ix_tup (pv 0) pe_int (fun _ _ => rfl)) (pe_ix ix_tup (pv 1) pe_int (fun _ _ => rfl))) (pe_op op_mulA (pe_ix ix_tup (pv 1) pe_int (fun _ _ => rfl)) (pe_ix ix_tup (pv 0) pe_int (fun _ _ => rfl)))))), 
fun ⟨a, b⟩ hp => by
    show StD K [pureS a, pureS b] _ _
    obtain ⟨h1, h2⟩ : SmU a ∧ SmU b := hp
    exact st_ret (evd_sub (evd_mul (evd_fst (evd_var (x := a) rfl)) (evd_snd (evd_var (x := b) rfl)) (sm_mul h1.1 h2.2)) (evd_mul (evd_fst (evd_var (x := b) rfl)) (evd_snd (evd_var (x := a) rfl)) (sm_mul h2.1 h1.2))) rfl rfl
⟩
def dotS (a b : List Rat) (k : Nat) (t : Int × Int) : Int × Int :=
  (t.1 * ((a.getD k default).den * (b.getD k default).den) + (a.getD k default).num * (b.getD k default).num * t.2, t.2 * ((a.getD k default).den * (b.getD k default).den))
def dotU (a b : List Rat) (n : Nat) : Int × Int := iter n (dotS a b) (0, 1)
theorem dot_uv {a b : List Rat} (h : DotOk a b) : ∀ {k : Nat}, k ≤ a.length → UV (130 * k + 1) (dotU a b k) (iter k (fun k t => t + a.getD k default * b.getD k default) 0)
  | 0, _ => (⟨by decide, (fit_zero (show 0 < 1 by decide)).1, (fit_zero (show 0 < 1 by decide)).2, Rat.zero_divInt 1⟩ : UV 1 ((0 : Int), (1 : Int)) 0)
  | k + 1, hk => by
    have ih := dot_uv h (k := k) (by omega)
    have fa := UV.pr (h.fa.getD (k := k) (by omega))
    have fb := UV.pr (h.fb.getD (k := k) (by have := h.le; omega))
    have hs := ih.add (fa.mul fb (Nat.le_refl _)) (show (130 * k + 1) + (64 + 64) < 130 * (k + 1) + 1 by omega)
    have e : dotU a b (k + 1) = addU (dotU a b k) (mulU (prU (a.getD k default)) (prU (b.getD k default))) := rfl
    rw [e]
    exact hs
abbrev sp__law_dot := sp2 DotOk (fun a b => dotU a b a.length)
theorem ok__law_dot {f : Addr} {fd : FuncData} (F : Fun K "_law_dot" "_law_dot" s__law_dot f fd) (B : Bi P mg base) : FnOk P w K mg base CX0 40 f fd ["_law_a", "_law_b"] (sp__law_dot K) :=
  fn_st F sc__law_dot (fun _ => rfl) fun cdv A' outer s H E hr => ⟨_,
(pss_cons (ps_set (i := 2) sc__law_dot.nd rfl (.inl rfl) (pe_tup (pa_cons pe_int (pa_cons pe_int pa_nil))))
(pss_cons (ps_for PassesOwn.never rfl (pi_range1 (by rfl) B.range (pa_cons (pe_callB call_len_seq (by rfl) B.len PySem.boot_len (pa_cons (pv 0) pa_nil)) pa_nil)) (pg_name (i := 3) sc__law_dot.nd rfl (.inl rfl))
(pss_cons (ps_set (i := 4) sc__law_dot.nd rfl (.inl rfl) (pe_op op_mulA (pe_ix ix_tup (pe_ix ix_list (pv 0) (pv 3) (fun _ _ => rfl)) pe_int (fun _ _ => rfl)) (pe_ix ix_tup (pe_ix ix_list (pv 1) (pv 3) (fun _ _ => rfl)) pe_int (fun _ _ => rfl))))
(pss_one (ps_set (i := 2) sc__law_dot.nd rfl (.inl rfl) (pe_tup (pa_cons (pe_op op_add (pe_op op_mulA (pe_ix ix_tup (pv 2) pe_int (fun _ _ => rfl)) (pv 4)) (pe_op op_mulA (pe_op op_mulA (pe_ix ix_tup (pe_ix ix_list (pv 0) (pv 3) (fun _ _ => rfl)) pe_int (fun _ _ => rfl)) (pe_ix ix_tup (pe_ix ix_list (pv 1) (pv 3) (fun _ _ => rfl)) pe_int (fun _ _ => rfl))) (pe_ix ix_tup (pv 2) pe_int (fun _ _ => rfl)))) (pa_cons (pe_op op_mulA (pe_ix ix_tup (pv 2) pe_int (fun _ _ => rfl)) (pv 4)) pa_nil)))))))
(pss_one (ps_ret (pv 2))))), 
fun ⟨a, b⟩ hp => by
    show StD K [pureS a, pureS b, none, none, none] _ _
    have hp : DotOk a b := hp
    have h4 := hp.len
    have hle := hp.le
    refine st_seq (st_set (x := dotU a b 0) (evd_tup2 evd_int evd_int) ?_)
    refine st_seq (st_forR (fun k G' => ∃ s3 s4, G' = [pureS a, pureS b, pureS (dotU a b k), s3, s4]) (len_of (EvD.l (evd_var (x := a) rfl))) (by omega) ⟨_, _, rfl⟩ (fun k G' hk hI => ?_) fun G' hI => ?_)
    · obtain ⟨s3, s4, rfl⟩ := hI
      have ih := dot_uv hp (k := k) (by omega)
      have fa := hp.fa.getD (k := k) (by omega)
      have fb := hp.fb.getD (k := k) (by omega)
      have fq := fa.2.mul fb.2
      have fn := fa.1.mul fb.1
      refine st_seq (st_set (evd_mul (evd_den (evd_ix (EvD.l (evd_var (x := a) rfl)) (evd_var (x := k) rfl) (by omega))) (evd_den (evd_ix (EvD.l (evd_var (x := b) rfl)) (evd_var (x := k) rfl) (by omega))) (fa.2.mulOk fb.2 (by decide))) ?_)
      exact st_set (x := dotU a b (k + 1)) (evd_tup2 (evd_add (evd_mul (evd_fst (evd_var (x := dotU a b k) rfl)) (evd_var (x := ((a.getD k default).den : Int) * ((b.getD k default).den : Int)) rfl) (ih.f1.mulOk fq (by omega))) (evd_mul (evd_mul (evd_num (evd_ix (EvD.l (evd_var (x := a) rfl)) (evd_var (x := k) rfl) (by omega))) (evd_num (evd_ix (EvD.l (evd_var (x := b) rfl)) (evd_var (x := k) rfl) (by omega))) (fa.1.mulOk fb.1 (by decide))) (evd_snd (evd_var (x := dotU a b k) rfl)) (fn.mulOk ih.f2 (by omega)))) (evd_mul (evd_snd (evd_var (x := dotU a b k) rfl)) (evd_var (x := ((a.getD k default).den : Int) * ((b.getD k default).den : Int)) rfl) (ih.f2.mulOk fq (by omega)))) ⟨_, _, rfl⟩
    · obtain ⟨s3, s4, rfl⟩ := hI
      exact st_ret (evd_var rfl) rfl rfl
⟩
theorem dotU_uv {a b : List Rat} (h : DotOk a b) : UV 521 (dotU a b a.length) (dotM a b) := (dot_uv h (Nat.le_refl _)).mono (by have := h.len; omega)
def gapU (bs : List Buy) (i : Nat) (x : List Rat) : Int × Int :=
  let p := dotU (bs.getD i default).1 x (bs.getD i default).1.length
  let m := dotU (bs.getD i default).1 (bs.getD i default).2 (bs.getD i default).1.length
  (p.1 * m.2 - m.1 * p.2, p.2 * m.2)
structure GapOk (g : Nat) (bs : List Buy) (i : Nat) (x : List Rat) : Prop where
  buys : BuysOk g bs
  hi : i < bs.length
  hx : BasOk g x
theorem gap_uv {g : Nat} {bs : List Buy} {i : Nat} {x : List Rat} (h : GapOk g bs i x) : UV 1043 (gapU bs i x) (gapM bs i x) := by
  have h1 := dotU_uv (h.buys.dot h.hi h.hx)
  have h2 := dotU_uv (h.buys.dot h.hi (h.buys.bas h.hi))
  exact ⟨Int.mul_pos h1.pos h2.pos, (h1.f1.mul h2.f2).sub (h2.f1.mul h1.f2) (by decide) (by decide), (h1.f2.mul h2.f2).mono (by decide), by
    unfold gapM coM spM
    rw [← h1.v, ← h2.v, Rat.divInt_sub_divInt _ _ (Int.ne_of_gt h1.pos) (Int.ne_of_gt h2.pos)]
    rfl⟩
abbrev sp__law_gap := sp3 (fun bs i x => ∃ g, GapOk g bs i x) gapU
theorem ok__law_gap {f : Addr} {fd : FuncData} (F : Fun K "_law_gap" "_law_gap" s__law_gap f fd) (B : Bi P mg base) (C_law_dot : Cal P w K mg base 40 "_law_dot" ["_law_a", "_law_b"] (sp__law_dot K)) : FnOk P w K mg base CX0 41 f fd ["_law_buys", "_law_i", "_law_basket"] (sp__law_gap K) :=
  fn_st F sc__law_gap (fun _ => rfl) fun cdv A' outer s H E hr => ⟨_,
(pss_cons (ps_set (i := 3) sc__law_gap.nd rfl (.inl rfl) (pe_cal C_law_dot (hr.mono (by decide)) (by rfl) (pa_cons (pe_ix ix_tup (pe_ix ix_list (pv 0) (pv 1) (fun _ _ => rfl)) pe_int (fun _ _ => rfl)) (pa_cons (pv 2) pa_nil))))
(pss_cons (ps_set (i := 4) sc__law_gap.nd rfl (.inl rfl) (pe_cal C_law_dot (hr.mono (by decide)) (by rfl) (pa_cons (pe_ix ix_tup (pe_ix ix_list (pv 0) (pv 1) (fun _ _ => rfl)) pe_int (fun _ _ => rfl)) (pa_cons (pe_ix ix_tup (pe_ix ix_list (pv 0) (pv 1) (fun _ _ => rfl)) pe_int (fun _ _ => rfl)) pa_nil))))
(pss_one (ps_ret (pe_tup (pa_cons (pe_op op_sub (pe_op op_mulA (pe_ix ix_tup (pv 3) pe_int (fun _ _ => rfl)) (pe_ix ix_tup (pv 4) pe_int (fun _ _ => rfl))) (pe_op op_mulA (pe_ix ix_tup (pv 4) pe_int (fun _ _ => rfl)) (pe_ix ix_tup (pv 3) pe_int (fun _ _ => rfl)))) (pa_cons (pe_op op_mulA (pe_ix ix_tup (pv 3) pe_int (fun _ _ => rfl)) (pe_ix ix_tup (pv 4) pe_int (fun _ _ => rfl))) pa_nil))))))), 
fun ⟨bs, i, x⟩ hp => by
    show StD K [pureS bs, pureS i, pureS x, none, none] _ _
    obtain ⟨g, hp⟩ : ∃ g, GapOk g bs i x := hp
    have d1 := hp.buys.dot hp.hi hp.hx
    have d2 := hp.buys.dot hp.hi (hp.buys.bas hp.hi)
    have h1 := dotU_uv d1
    have h2 := dotU_uv d2
    refine st_seq (st_set (x := dotU (bs.getD i default).1 x (bs.getD i default).1.length) (evd_call2 (evd_fst (evd_ix (EvD.l (evd_var (x := bs) rfl)) (evd_var (x := i) rfl) hp.hi)) (evd_var (x := x) rfl) d1) ?_)
    refine st_seq (st_set (x := dotU (bs.getD i default).1 (bs.getD i default).2 (bs.getD i default).1.length) (evd_call2 (evd_fst (evd_ix (EvD.l (evd_var (x := bs) rfl)) (evd_var (x := i) rfl) hp.hi)) (evd_snd (evd_ix (EvD.l (evd_var (x := bs) rfl)) (evd_var (x := i) rfl) hp.hi)) d2) ?_)
    generalize hP : dotU (bs.getD i default).1 x (bs.getD i default).1.length = p at *
    generalize hM : dotU (bs.getD i default).1 (bs.getD i default).2 (bs.getD i default).1.length = m at *
    refine st_ret (evd_tup2 (evd_sub (evd_mul (evd_fst (evd_var (x := p) rfl)) (evd_snd (evd_var (x := m) rfl)) (h1.f1.mulOk h2.f2 (by decide))) (evd_mul (evd_fst (evd_var (x := m) rfl)) (evd_snd (evd_var (x := p) rfl)) (h2.f1.mulOk h1.f2 (by decide)))) (evd_mul (evd_snd (evd_var (x := p) rfl)) (evd_snd (evd_var (x := m) rfl)) (h1.f2.mulOk h2.f2 (by decide)))) rfl ?_
    show _ = gapU bs i x
    unfold gapU
    rw [hP, hM]
⟩
structure LStep (g : Nat) (bs : List Buy) (i j : Nat) : Prop where
  buys : BuysOk g bs
  hi : i < bs.length
  hj : j < bs.length
abbrev sp__law_step := sp4 (fun bs (_ : List Link) i j => ∃ g, LStep g bs i j) stepM
theorem ok__law_step {f : Addr} {fd : FuncData} (F : Fun K "_law_step" "_law_step" s__law_step f fd) (B : Bi P mg base) (C_law_gap : Cal P w K mg base 41 "_law_gap" ["_law_buys", "_law_i", "_law_basket"] (sp__law_gap K)) : FnOk P w K mg base CX0 42 f fd ["_law_buys", "_law_links", "_law_i", "_law_j"] (sp__law_step K) :=
  fn_st F sc__law_step (fun _ => rfl) fun cdv A' outer s H E hr => ⟨_,
(pss_cons (ps_set (i := 4) sc__law_step.nd rfl (.inl rfl) pe_non)
(pss_cons (ps_if (pt_cmpR op_ne (pv 2) (pv 3) (nomark _))
(pss_cons (ps_set (i := 5) sc__law_step.nd rfl (.inl rfl) (pe_ix ix_tup (pe_cal C_law_gap (hr.mono (by decide)) (by rfl) (pa_cons (pv 0) (pa_cons (pv 2) (pa_cons (pe_ix ix_tup (pe_ix ix_list (pv 0) (pv 3) (fun _ _ => rfl)) pe_int (fun _ _ => rfl)) pa_nil)))) pe_int (fun _ _ => rfl)))
(pss_one (ps_if (pt_cmpR op_le (pv 5) pe_int (nomark _))
(pss_one (ps_set (i := 4) sc__law_step.nd rfl (.inl rfl) (pe_cmpR op_lt (pv 5) pe_int (nomark _))))
pss_nil)))
pss_nil)
(pss_cons (ps_for PassesOwn.never rfl (pi_list (pv 1)) (pg_tup rfl (pgs_cons (pg_name (i := 6) sc__law_step.nd rfl (.inl rfl)) (pgs_cons (pg_name (i := 7) sc__law_step.nd rfl (.inl rfl)) (pgs_cons (pg_name (i := 8) sc__law_step.nd rfl (.inl rfl)) pgs_nil))))
(pss_one (ps_if (PW.pt (pw_and (pt_cmpR op_eq (pv 6) (pv 2) (nomark _)) (pw_and1 (pt_cmpR op_eq (pv 7) (pv 3) (nomark _)))))
(pss_one (ps_set (i := 4) sc__law_step.nd rfl (.inl rfl) (pe_or (pv 8) (pe_one (pe_cmpR op_isT (pv 4) pe_bl (nomark _))))))
pss_nil)))
(pss_one (ps_ret (pv 4)))))), 
fun ⟨bs, ls, i, j⟩ hp => by
    show StD K [pureS bs, pureS ls, pureS i, pureS j, none, none, none, none, none] _ _
    obtain ⟨g, hp⟩ : ∃ g, LStep g bs i j := hp
    have gk : GapOk g bs i (bs.getD j default).2 := ⟨hp.buys, hp.hi, hp.buys.bas hp.hj⟩
    have hs := (gap_uv gk).sgn
    refine st_seq (st_set (evd_non (α := Bool)) ?_)
    refine st_mid (fun G' => ∃ s5, G' = [pureS bs, pureS ls, pureS i, pureS j, pureS (costStep bs i j), s5, none, none, none]) ?_ ?_
    · refine st_if (evb_test (evd_neN (evd_var (x := i) rfl) (evd_var (x := j) rfl))) (fun h => ?_) (fun h => ?_)
      · have h : ¬ i = j := by simpa using h
        refine st_seq (st_set (evd_fst (evd_call3 (evd_var (x := bs) rfl) (evd_var (x := i) rfl) (evd_snd (evd_ix (EvD.l (evd_var (x := bs) rfl)) (evd_var (x := j) rfl) hp.hj)) ⟨g, gk⟩)) ?_)
        have e1 : (gapM bs i (bs.getD j default).2 ≤ 0) ↔ (coM bs i (bs.getD j default).2 ≤ spM bs i) := by
          unfold gapM
          constructor <;> intro h <;> grind
        have e2 : (gapM bs i (bs.getD j default).2 < 0) ↔ (coM bs i (bs.getD j default).2 < spM bs i) := by
          unfold gapM
          constructor <;> intro h <;> grind
        refine st_if (evb_test (evd_le (evd_var (x := (gapU bs i (bs.getD j default).2).1) rfl) evd_int)) (fun h' => ?_) (fun h' => ?_)
        · have e : costStep bs i j = some (decide ((gapU bs i (bs.getD j default).2).1 < 0)) := by
            unfold costStep
            rw [if_neg h, if_pos (e1.mp (hs.2.mp (of_decide_eq_true h')))]
            exact congrArg some (decide_eq_decide.mpr (e2.symm.trans hs.1.symm))
          rw [e]
          exact st_set (EvD.some (evd_lt (evd_var (x := (gapU bs i (bs.getD j default).2).1) rfl) evd_int)) ⟨_, rfl⟩
        · have e : costStep bs i j = none := by
            unfold costStep
            rw [if_neg h, if_neg (fun z => of_decide_eq_false h' (hs.2.mpr (e1.mpr z)))]
          rw [e]
          exact st_next ⟨_, rfl⟩
      · have h : i = j := by simpa using h
        have e : costStep bs i j = none := by
          unfold costStep
          rw [if_pos h]
        rw [e]
        exact st_next ⟨_, rfl⟩
    · rintro G' ⟨s5, rfl⟩
      refine st_seq (st_forL (fun k G' => ∃ s6 s7 s8, G' = [pureS bs, pureS ls, pureS i, pureS j, pureS ((ls.take k).foldl (linkStep i j) (costStep bs i j)), s5, s6, s7, s8]) (evd_var (x := ls) rfl) ⟨_, _, _, rfl⟩ (fun k x G' hx hI => ⟨_, gd_tup3 gd_name gd_name gd_name, ?_⟩) fun G' hI => ?_)
      · obtain ⟨s6, s7, s8, rfl⟩ := hI
        refine st_if (evb_and (evb_test (evd_eqN (evd_var (x := x.a) rfl) (evd_var (x := i) rfl))) fun z => (evb_test (evd_eqN (evd_var (x := x.b) rfl) (evd_var (x := j) rfl)))) (fun h => ?_) (fun h => ?_)
        · have e : linkStep i j ((ls.take k).foldl (linkStep i j) (costStep bs i j)) x = some (x.c || decide ((ls.take k).foldl (linkStep i j) (costStep bs i j) = some true)) := by
            rw [Bool.or_comm]
            exact if_pos h
          rw [foldl_take hx, e]
          exact st_set (EvD.some (evd_orV (evd_var (x := x.c) rfl) fun z => (evd_isT (evd_var rfl)))) ⟨_, _, _, rfl⟩
        · have e : linkStep i j ((ls.take k).foldl (linkStep i j) (costStep bs i j)) x = (ls.take k).foldl (linkStep i j) (costStep bs i j) := if_neg (by rw [h]; simp)
          rw [foldl_take hx, e]
          exact st_next ⟨_, _, _, rfl⟩
      · obtain ⟨s6, s7, s8, rfl⟩ := hI
        rw [List.take_length]
        exact st_ret (evd_var rfl) rfl rfl
⟩
abbrev sp__law_steps := sp2 (fun bs (_ : List Link) => ∃ g, BuysOk g bs) tableM
theorem ok__law_steps {f : Addr} {fd : FuncData} (F : Fun K "_law_steps" "_law_steps" s__law_steps f fd) (B : Bi P mg base) (C_law_step : Cal P w K mg base 42 "_law_step" ["_law_buys", "_law_links", "_law_i", "_law_j"] (sp__law_step K)) : FnOk P w K mg base CX0 43 f fd ["_law_buys", "_law_links"] (sp__law_steps K) :=
  fn_st F sc__law_steps (fun _ => rfl) fun cdv A' outer s H E hr => ⟨_,
(pss_one (ps_ret (pe_lc (own := [("_law_i", 3)]) (g := gName 3) (tt := tYes) rfl sc__law_steps.nd (pi_range1 (by rfl) B.range (pa_cons (pe_callB call_len_seq (by rfl) B.len PySem.boot_len (pa_cons (pv 0) pa_nil)) pa_nil)) (blkOk_by (N := N__law_steps) (sc := defScope s__law_steps) (by decide +kernel)) (fun _ _ _ _ _ => (pg_name (i := 3) sc__law_steps.nd rfl (.inr rfl))) (fun _ _ _ _ _ => pts_nil) (fun _ _ _ _ _ => (pe_lc (own := [("_law_j", 2)]) (g := gName 2) (tt := tYes) rfl sc__law_steps.nd (pi_range1 (by rfl) B.range (pa_cons (pe_callB call_len_seq (by rfl) B.len PySem.boot_len (pa_cons (pv 0) pa_nil)) pa_nil)) (blkOk_by (N := N__law_steps) (sc := (relS { kind := .function, names := [(".0", .local), ("_law_i", .cell), ("range", .globalImplicit), ("len", .globalImplicit), ("_law_buys", .free), ("_law_links", .free)], isGenerator := false, isCoroutine := false, more := [] } (defScope s__law_steps))) (by decide +kernel)) (fun _ _ _ _ _ => (pg_name (i := 2) sc__law_steps.nd rfl (.inl rfl))) (fun _ _ _ _ _ => pts_nil) (fun _ _ _ _ _ => (pe_cal C_law_step (hr.mono (by decide)) (by rfl) (pa_cons (pv 0) (pa_cons (pv 1) (pa_cons (pv 3) (pa_cons (pv 2) pa_nil))))))))))), 
fun ⟨bs, ls⟩ hp => by
    show StD K [pureS bs, pureS ls, none, none] _ _
    obtain ⟨g, hp⟩ : ∃ g, BuysOk g bs := hp
    have hl := hp.len
    exact st_ret (EvN.d (evn_lcR0 (fun i => (List.range bs.length).map fun j => stepM bs ls i j) (len_of (EvD.l (evd_var (x := bs) rfl))) (by omega) (by decide) (fun i hi => (EvN.d (evn_lcR0 (fun j => stepM bs ls i j) (len_of (EvD.l (evd_var (x := bs) rfl))) (by omega) (by decide) (fun j hj => (evd_call4 (evd_var (x := bs) rfl) (evd_var (x := ls) rfl) (evd_var (x := i) rfl) (evd_var (x := j) rfl) ⟨g, hp, hi, hj⟩))))))) rfl rfl
⟩
end BB

/-! the law's judges -/
namespace BB
open PySem PySem.Spec L2
variable {P : Program} {w : World} {K : KF} {mg : Str → Option Value} {base : Heap} {aZ aO : Addr}
abbrev s__law_chain : Stmt := topS 50
abbrev N__law_chain : List Str := ["_law_steps_here", "_law_chain_here", "_law_i", "_law_strict", "_law_k", "_law_one"]
theorem sc__law_chain : FnScope N__law_chain ["_law_steps_here", "_law_chain_here"] (defScope s__law_chain) := ⟨rfl, rfl, rfl, by decide +kernel, rfl, by decide +kernel, by decide +kernel⟩

abbrev s__law_accepts : Stmt := topS 54
abbrev N__law_accepts : List Str := ["_law_buys", "_law_links", "_law_numbers_here", "_law_weights_here", "_law_i", "_law_j", "_law_told", "_law_strict", "_law_over_here"]
theorem sc__law_accepts : FnScope N__law_accepts ["_law_buys", "_law_links", "_law_numbers_here", "_law_weights_here"] (defScope s__law_accepts) := ⟨rfl, rfl, rfl, by decide +kernel, rfl, by decide +kernel, by decide +kernel⟩

abbrev s__law_is_ring : Stmt := topS 55
abbrev N__law_is_ring : List Str := ["_law_buys", "_law_links", "_law_chain_here"]
theorem sc__law_is_ring : FnScope N__law_is_ring ["_law_buys", "_law_links", "_law_chain_here"] (defScope s__law_is_ring) := ⟨rfl, rfl, rfl, by decide +kernel, rfl, by decide +kernel, by decide +kernel⟩

abbrev s__law_is_taste : Stmt := topS 56
abbrev N__law_is_taste : List Str := ["_law_buys", "_law_links", "_law_taste"]
theorem sc__law_is_taste : FnScope N__law_is_taste ["_law_buys", "_law_links", "_law_taste"] (defScope s__law_is_taste) := ⟨rfl, rfl, rfl, by decide +kernel, rfl, by decide +kernel, by decide +kernel⟩

abbrev s__law_kind : Stmt := topS 57
abbrev N__law_kind : List Str := ["_law_buys", "_law_links", "_law_found"]
theorem sc__law_kind : FnScope N__law_kind ["_law_buys", "_law_links", "_law_found"] (defScope s__law_kind) := ⟨rfl, rfl, rfl, by decide +kernel, rfl, by decide +kernel, by decide +kernel⟩

structure LCh (bs : List Buy) (ls : List Link) (c : List Nat) : Prop where
  l8 : bs.length ≤ 8
  ok : ChainOk bs ls c
  len : c.length ≤ 1000
abbrev sp__law_chain := spR (A := List Buy × List Link × List Nat) (fun a => [dyn (tableM a.1 a.2.1), dyn a.2.2]) (fun a => LCh a.1 a.2.1 a.2.2) (fun a => RetV (some (strictTo a.1 a.2.1 a.2.2 (a.2.2.length - 1))))
theorem ok__law_chain {f : Addr} {fd : FuncData} (F : Fun K "_law_chain" "_law_chain" s__law_chain f fd) (B : Bi P mg base) (C_law_is_integer : Cal P w K mg base 40 "_law_is_integer" ["_law_x"] (sp__law_is_integer K)) : FnOk P w K mg base CX0 41 f fd ["_law_steps_here", "_law_chain_here"] (sp__law_chain K) :=
  fn_st F sc__law_chain (fun _ => rfl) fun cdv A' outer s H E hr => ⟨_,
(pss_cons (ps_if (PW.pt (pw_or (pt_not (pt_val (pe_callB call_isi (by rfl) B.isinstance (by decide +kernel) (pa_cons (pv 1) (pa_cons (pe_bltn (v := .ty "list") (by rfl) B.list (by decide +kernel) rfl) pa_nil))))) (pw_or1 (pt_not (pt_truth (pv 1) (fun _ => rfl))))))
(pss_one (ps_ret pe_non))
pss_nil)
(pss_cons (ps_for PassesOwn.never rfl (pi_list (pv 1)) (pg_name (i := 2) sc__law_chain.nd rfl (.inl rfl))
(pss_one (ps_if (PW.pt (pw_or (pt_not (pt_val (pe_cal C_law_is_integer (hr.mono (by decide)) (by rfl) (pa_cons (pv 2) pa_nil)))) (pw_or1 (pt_not (pt_chain op_le op_lt pe_int (pv 2) (pe_callB call_len_seq (by rfl) B.len PySem.boot_len (pa_cons (pv 0) pa_nil)))))))
(pss_one (ps_ret pe_non))
pss_nil)))
(pss_cons (ps_set (i := 3) sc__law_chain.nd rfl (.inl rfl) pe_bl)
(pss_cons (ps_for PassesOwn.never rfl (pi_range1 (by rfl) B.range (pa_cons (pe_op op_sub (pe_callB call_len_seq (by rfl) B.len PySem.boot_len (pa_cons (pv 1) pa_nil)) pe_int) pa_nil)) (pg_name (i := 4) sc__law_chain.nd rfl (.inl rfl))
(pss_cons (ps_set (i := 5) sc__law_chain.nd rfl (.inl rfl) (pe_ix ix_list (pe_ix ix_list (pv 0) (pe_ix ix_list (pv 1) (pv 4) (fun _ _ => rfl)) (fun _ _ => rfl)) (pe_ix ix_list (pv 1) (pe_op op_add (pv 4) pe_int) (fun _ _ => rfl)) (fun _ _ => rfl)))
(pss_cons (ps_if (pt_cmpR op_isN (pv 5) pe_non (nomark _))
(pss_one (ps_ret pe_non))
pss_nil)
(pss_one (ps_set (i := 3) sc__law_chain.nd rfl (.inl rfl) (pe_or (pv 3) (pe_one (pv 5))))))))
(pss_one (ps_ret (pv 3))))))), 
fun ⟨bs, ls, c⟩ hp => by
    show StD K [pureS (tableM bs ls), pureS c, none, none, none, none] _ _
    obtain ⟨h8, hc, hl⟩ : LCh bs ls c := hp
    have hpos : 0 < c.length := List.length_pos_iff.mpr hc.ne
    have htl := table_len bs ls
    have hsq := table_sq bs ls
    refine st_seq (st_if (evb_or (a := false) (evb_not (a := true) (evb_B (evd_isi (b := true) (evd_var (x := c) rfl) ty_list rfl))) fun z => (evb_not (evb_truL (EvD.l (evd_var (x := c) rfl))))) (fun h => ?_) (fun h => st_next ?_))
    · exact absurd (by simpa using h) hc.ne
    refine st_seq (st_forL (fun i G' => ∃ s2, G' = [pureS (tableM bs ls), pureS c, s2, none, none, none]) (evd_var (x := c) rfl) ⟨_, rfl⟩ (fun i x G' hx hI => ⟨_, gd_name, ?_⟩) fun G' hI => ?_)
    · obtain ⟨s2, rfl⟩ := hI
      have hx' := hc.lt x (List.mem_of_getElem? hx)
      refine st_if (evb_or (a := false) (evb_not (a := true) (evb_B (evd_call1 (EvD.int (evd_var (x := x) rfl)) trivial))) fun z => (evb_not (evb_test (evd_chain evd_int (EvD.int (evd_var (x := x) rfl)) (EvD.int (len_of (EvD.l (evd_var (x := tableM bs ls) rfl)))))))) (fun h => ?_) (fun h => st_next ⟨_, rfl⟩)
      simp [hx', htl] at h
    · obtain ⟨s2, rfl⟩ := hI
      refine st_seq (st_set evd_bl ?_)
      refine st_seq (st_forR (n := c.length - 1) (fun i G' => ∃ s4 s5, G' = [pureS (tableM bs ls), pureS c, s2, pureS (strictTo bs ls c i), s4, s5]) (EvD.nat (evd_sub (EvD.int (len_of (EvD.l (evd_var (x := c) rfl)))) evd_int) (by omega)) (by omega) ⟨_, _, rfl⟩ (fun i G' hi hI => ?_) fun G' hI => ?_)
      · obtain ⟨s4, s5, rfl⟩ := hI
        have hs := hc.st i (by omega)
        have g1 := getD_lt hc.lt (k := i) (by omega)
        have g2 := getD_lt hc.lt (k := i + 1) (by omega)
        have e0 : ((tableM bs ls).getD (c.getD i default) default).getD (c.getD (i + 1) default) default = stepM bs ls (c.getD i default) (c.getD (i + 1) default) := tg_table g1 g2
        refine st_seq (st_set (x := stepM bs ls (c.getD i default) (c.getD (i + 1) default)) ((evd_ix (EvD.l (evd_ix (EvD.l (evd_var (x := tableM bs ls) rfl)) (evd_ix (EvD.l (evd_var (x := c) rfl)) (evd_var (x := i) rfl) (by omega)) (by rw [htl]; exact g1))) (ixN (EvD.l (evd_var (x := c) rfl)) (evd_add (EvD.int (evd_var (x := i) rfl)) evd_int) (j := i + 1) (by omega) (by omega)) (by rw [hsq.at (by rw [htl]; exact g1), htl]; exact g2)).to e0) ?_)
        obtain ⟨b, hb'⟩ := Option.isSome_iff_exists.mp hs
        have e1 : strictTo bs ls c (i + 1) = (strictTo bs ls c i || b) := by
          show (strictTo bs ls c i || decide (stepM bs ls (c.getD i default) (c.getD (i + 1) default) = some true)) = _
          rw [hb']
          cases b <;> simp
        show StD K [pureS (tableM bs ls), pureS c, s2, pureS (strictTo bs ls c i), pureS i, pureS (stepM bs ls (c.getD i default) (c.getD (i + 1) default))] _ _
        rw [hb']
        refine st_seq (st_if (evb_test (evd_isN (evd_var (x := some b) rfl))) (fun h => ?_) (fun h => st_next ?_))
        · simp at h
        · rw [e1]
          exact st_set (evd_orV (evd_var (x := strictTo bs ls c i) rfl) fun z => EvD.val (evd_var (x := some b) rfl)) ⟨_, _, rfl⟩
      · obtain ⟨s4, s5, rfl⟩ := hI
        exact st_ret (EvD.some (evd_var (x := strictTo bs ls c (c.length - 1)) rfl)) rfl rfl
⟩
structure LAcc (g : Nat) (bs : List Buy) (ls : List Link) (ns ws : List Rat) : Prop where
  buys : BuysOk g bs
  links : LinksOk bs.length ls
  l1 : ns.length = bs.length
  l2 : ws.length = bs.length
  f1 : FitL 1000000 ns
  f2 : FitL 1000000 ws
def accM (bs : List Buy) (ls : List Link) (ns ws : List Rat) : Bool := allN bs.length (tastePart bs (ns, ws)) && holdM ls ns
abbrev sp__law_accepts := sp4 (fun bs ls ns ws => ∃ g, LAcc g bs ls ns ws) accM
theorem ok__law_accepts {f : Addr} {fd : FuncData} (F : Fun K "_law_accepts" "_law_accepts" s__law_accepts f fd) (B : Bi P mg base) (C_law_gap : Cal P w K mg base 41 "_law_gap" ["_law_buys", "_law_i", "_law_basket"] (sp__law_gap K)) (C_law_add : Cal P w K mg base 40 "_law_add" ["_law_a", "_law_b"] (sp__law_add K)) (C_law_mul : Cal P w K mg base 40 "_law_mul" ["_law_a", "_law_b"] (sp__law_mul K)) (C_law_over : Cal P w K mg base 40 "_law_over" ["_law_a", "_law_b"] (sp__law_over K)) : FnOk P w K mg base CX0 42 f fd ["_law_buys", "_law_links", "_law_numbers_here", "_law_weights_here"] (sp__law_accepts K) :=
  fn_st F sc__law_accepts (fun _ => rfl) fun cdv A' outer s H E hr => ⟨_,
(pss_cons (ps_for PassesOwn.never rfl (pi_range1 (by rfl) B.range (pa_cons (pe_callB call_len_seq (by rfl) B.len PySem.boot_len (pa_cons (pv 0) pa_nil)) pa_nil)) (pg_name (i := 4) sc__law_accepts.nd rfl (.inl rfl))
(pss_cons (ps_if (pt_cmpR op_le (pe_ix ix_tup (pe_ix ix_list (pv 3) (pv 4) (fun _ _ => rfl)) pe_int (fun _ _ => rfl)) pe_int (nomark _))
(pss_one (ps_ret pe_bl))
pss_nil)
(pss_one (ps_for PassesOwn.never rfl (pi_range1 (by rfl) B.range (pa_cons (pe_callB call_len_seq (by rfl) B.len PySem.boot_len (pa_cons (pv 0) pa_nil)) pa_nil)) (pg_name (i := 5) sc__law_accepts.nd rfl (.inl rfl))
(pss_cons (ps_set (i := 6) sc__law_accepts.nd rfl (.inl rfl) (pe_cal C_law_add (hr.mono (by decide)) (by rfl) (pa_cons (pe_ix ix_list (pv 2) (pv 4) (fun _ _ => rfl)) (pa_cons (pe_cal C_law_mul (hr.mono (by decide)) (by rfl) (pa_cons (pe_ix ix_list (pv 3) (pv 4) (fun _ _ => rfl)) (pa_cons (pe_cal C_law_gap (hr.mono (by decide)) (by rfl) (pa_cons (pv 0) (pa_cons (pv 4) (pa_cons (pe_ix ix_tup (pe_ix ix_list (pv 0) (pv 5) (fun _ _ => rfl)) pe_int (fun _ _ => rfl)) pa_nil)))) pa_nil))) pa_nil))))
(pss_one (ps_if (pt_cmpR op_lt (pe_cal C_law_over (hr.mono (by decide)) (by rfl) (pa_cons (pv 6) (pa_cons (pe_ix ix_list (pv 2) (pv 5) (fun _ _ => rfl)) pa_nil))) pe_int (nomark _))
(pss_one (ps_ret pe_bl))
pss_nil)))))))
(pss_cons (ps_for PassesOwn.never rfl (pi_list (pv 1)) (pg_tup rfl (pgs_cons (pg_name (i := 4) sc__law_accepts.nd rfl (.inl rfl)) (pgs_cons (pg_name (i := 5) sc__law_accepts.nd rfl (.inl rfl)) (pgs_cons (pg_name (i := 7) sc__law_accepts.nd rfl (.inl rfl)) pgs_nil))))
(pss_cons (ps_set (i := 8) sc__law_accepts.nd rfl (.inl rfl) (pe_cal C_law_over (hr.mono (by decide)) (by rfl) (pa_cons (pe_ix ix_list (pv 2) (pv 4) (fun _ _ => rfl)) (pa_cons (pe_ix ix_list (pv 2) (pv 5) (fun _ _ => rfl)) pa_nil))))
(pss_one (ps_if (PW.pt (pw_or (pt_cmpR op_lt (pv 8) pe_int (nomark _)) (pw_or1 (PW.pt (pw_and (pt_val (pv 7)) (pw_and1 (pt_cmpR op_eq (pv 8) pe_int (nomark _))))))))
(pss_one (ps_ret pe_bl))
pss_nil))))
(pss_one (ps_ret pe_bl)))), 
fun ⟨bs, ls, ns, ws⟩ hp => by
    show StD K [pureS bs, pureS ls, pureS ns, pureS ws, none, none, none, none, none] _ _
    obtain ⟨g, hp⟩ : ∃ g, LAcc g bs ls ns ws := hp
    have h8 := hp.buys.len
    have hl1 := hp.l1
    have hl2 := hp.l2
    refine st_seq (st_forR (fun i G' => (∃ s4 s5 s6, G' = [pureS bs, pureS ls, pureS ns, pureS ws, s4, s5, s6, none, none]) ∧ allN i (tastePart bs (ns, ws)) = true) (len_of (EvD.l (evd_var (x := bs) rfl))) (by omega) ⟨⟨_, _, _, rfl⟩, rfl⟩ (fun i G' hi hI => ?_) fun G' hI => ?_)
    · obtain ⟨⟨s4, s5, s6, rfl⟩, hI⟩ := hI
      have fw := hp.f2.getD (k := i) (by omega)
      have fn := hp.f1.getD (k := i) (by omega)
      have ew : (ws.getD i default).num ≤ 0 ↔ ws.getD i default ≤ 0 := by
        rw [← Rat.not_lt, pos_num]
        omega
      refine st_seq (st_if (evb_test (evd_le (evd_num (evd_ix (EvD.l (evd_var (x := ws) rfl)) (evd_var (x := i) rfl) (by omega))) evd_int)) (fun h => ?_) (fun h => st_next ?_))
      · refine st_ret evd_bl rfl ?_
        show false = accM bs ls ns ws
        unfold accM
        rw [allN_false hi (by
          unfold tastePart
          rw [decide_eq_true (p := ws.getD i default ≤ 0) (ew.mp (of_decide_eq_true h))]
          rfl)]
        rfl
      · have h0 : ¬ ws.getD i default ≤ 0 := fun z => of_decide_eq_false h (ew.mpr z)
        refine st_forR (fun j G' => (∃ s5 s6, G' = [pureS bs, pureS ls, pureS ns, pureS ws, pureS i, s5, s6, none, none]) ∧ allN j (fun j => !decide (planeM bs (ns, ws) i (bs.getD j default).2 < ns.getD j default)) = true) (len_of (EvD.l (evd_var (x := bs) rfl))) (by omega) ⟨⟨_, _, rfl⟩, rfl⟩ (fun j G' hj hJ => ?_) fun G' hJ => ?_
        · obtain ⟨⟨s5, s6, rfl⟩, hJ⟩ := hJ
          have gk : GapOk g bs i (bs.getD j default).2 := ⟨hp.buys, hi, hp.buys.bas hj⟩
          have ug := gap_uv gk
          have um := (UV.pr fw).mul ug (Nat.le_refl _)
          have ut := (UV.pr fn).add um (show 1000000 + (1000000 + 1043) < 2001044 by decide)
          have uj := UV.pr (hp.f1.getD (k := j) (by omega))
          have ho := ut.over uj
          refine st_seq (st_set (x := addU (prU (ns.getD i default)) (mulU (prU (ws.getD i default)) (gapU bs i (bs.getD j default).2))) (evd_call2 (EvD.pr (evd_ix (EvD.l (evd_var (x := ns) rfl)) (evd_var (x := i) rfl) (by omega))) (evd_call2 (EvD.pr (evd_ix (EvD.l (evd_var (x := ws) rfl)) (evd_var (x := i) rfl) (by omega))) (evd_call3 (evd_var (x := bs) rfl) (evd_var (x := i) rfl) (evd_snd (evd_ix (EvD.l (evd_var (x := bs) rfl)) (evd_var (x := j) rfl) hj)) ⟨g, gk⟩) ⟨(UV.pr fw).sm (by decide), ug.sm (by decide)⟩) ⟨(UV.pr fn).sm (by decide), um.sm (by decide)⟩) ?_)
          refine st_if (evb_test (evd_lt (evd_call2 (evd_var (x := addU (prU (ns.getD i default)) (mulU (prU (ws.getD i default)) (gapU bs i (bs.getD j default).2))) rfl) (EvD.pr (evd_ix (EvD.l (evd_var (x := ns) rfl)) (evd_var (x := j) rfl) (by omega))) ⟨ut.sm (by decide), uj.sm (by decide)⟩) evd_int)) (fun h' => ?_) (fun h' => st_next ⟨⟨_, _, rfl⟩, ?_⟩)
          · have hlt : planeM bs (ns, ws) i (bs.getD j default).2 < ns.getD j default := ho.1.mp (of_decide_eq_true h')
            refine st_ret evd_bl rfl ?_
            show false = accM bs ls ns ws
            unfold accM
            rw [allN_false hi (by
              unfold tastePart
              rw [allN_false (k := j) hj (by simp only; rw [decide_eq_true hlt]; rfl)]
              simp)]
            rfl
          · have hlt : ¬ planeM bs (ns, ws) i (bs.getD j default).2 < ns.getD j default := fun z => of_decide_eq_false h' (ho.1.mpr z)
            show (allN j _ && _) = true
            rw [hJ]
            simp only
            rw [decide_eq_false hlt]
            rfl
        · obtain ⟨⟨s5, s6, rfl⟩, hJ⟩ := hJ
          refine ⟨⟨_, _, _, rfl⟩, ?_⟩
          show (allN i _ && _) = true
          rw [hI]
          unfold tastePart
          simp only
          rw [decide_eq_false h0, hJ]
          rfl
    · obtain ⟨⟨s4, s5, s6, rfl⟩, hI⟩ := hI
      refine st_seq (st_forL (fun k G' => (∃ s4 s5 s7 s8, G' = [pureS bs, pureS ls, pureS ns, pureS ws, s4, s5, s6, s7, s8]) ∧ (ls.take k).all (fun l => !linkM ns l) = true) (evd_var (x := ls) rfl) ⟨⟨_, _, _, _, rfl⟩, by simp⟩ (fun k x G' hx hI2 => ⟨_, gd_tup3 gd_name gd_name gd_name, ?_⟩) fun G' hI2 => ?_)
      · obtain ⟨⟨s4, s5, s7, s8, rfl⟩, hI2⟩ := hI2
        obtain ⟨ha, hb⟩ := hp.links x (List.mem_of_getElem? hx)
        have ua := UV.pr (hp.f1.getD (k := x.a) (by omega))
        have ub := UV.pr (hp.f1.getD (k := x.b) (by omega))
        have ho := ua.over ub
        have el : linkM ns x = (decide (overU (prU (ns.getD x.a default)) (prU (ns.getD x.b default)) < 0) || (x.c && decide (overU (prU (ns.getD x.a default)) (prU (ns.getD x.b default)) = 0))) := by
          unfold linkM
          rw [decide_eq_decide.mpr ho.1, decide_eq_decide.mpr ho.2]
        refine st_seq (st_set (x := overU (prU (ns.getD x.a default)) (prU (ns.getD x.b default))) (evd_call2 (EvD.pr (evd_ix (EvD.l (evd_var (x := ns) rfl)) (evd_var (x := x.a) rfl) (by omega))) (EvD.pr (evd_ix (EvD.l (evd_var (x := ns) rfl)) (evd_var (x := x.b) rfl) (by omega))) ⟨ua.sm (by decide), ub.sm (by decide)⟩) ?_)
        refine st_if (b := linkM ns x) ((evb_or (evb_test (evd_lt (evd_var (x := overU (prU (ns.getD x.a default)) (prU (ns.getD x.b default))) rfl) evd_int)) fun z => (evb_and (evb_B (evd_var (x := x.c) rfl)) fun z => (evb_test (evd_eqI (evd_var (x := overU (prU (ns.getD x.a default)) (prU (ns.getD x.b default))) rfl) evd_int)))).to el.symm) (fun h => ?_) (fun h => st_next ⟨⟨_, _, _, _, rfl⟩, all_take (p := fun l => !linkM ns l) hx (by rw [h]; rfl) hI2⟩)
        refine st_ret evd_bl rfl ?_
        show false = accM bs ls ns ws
        unfold accM holdM
        rw [all_no (p := fun l => !linkM ns l) hx (by rw [h]; rfl), Bool.and_false]
      · obtain ⟨⟨s4, s5, s7, s8, rfl⟩, hI2⟩ := hI2
        rw [List.take_length] at hI2
        refine st_ret evd_bl rfl ?_
        show true = accM bs ls ns ws
        unfold accM holdM
        rw [hI, hI2]
        rfl
⟩
end BB

/-! what is told, judged by the law -/
namespace BB
open PySem PySem.Spec L2
variable {P : Program} {w : World} {K : KF} {mg : Str → Option Value} {base : Heap} {aZ aO : Addr}
theorem iter_congr {α : Type} {f g : Nat → α → α} {x : α} : ∀ {n : Nat}, (∀ k y, k < n → f k y = g k y) → iter n f x = iter n g x
  | 0, _ => rfl
  | n + 1, h => by
    show f n (iter n f x) = g n (iter n g x)
    rw [h n _ (Nat.lt_succ_self n), iter_congr fun k y hk => h k y (by omega)]
theorem getD_app {c : List Nat} {k m : Nat} (h : m < c.length) : (c ++ [k]).getD m default = c.getD m default := by
  rw [List.getD_eq_getElem?_getD, List.getD_eq_getElem?_getD, List.getElem?_append_left h]
theorem getD_last {c : List Nat} {k : Nat} : (c ++ [k]).getD c.length default = k := by
  rw [List.getD_eq_getElem?_getD, List.getElem?_append_right (Nat.le_refl _), Nat.sub_self]
  rfl
/-- what a chain that was found is -/
theorem CF.facts {bs : List Buy} {ls : List Link} {i : Nat} {c : List Nat} {k : Nat} {s : Bool} (h : CF (tableM bs ls) bs.length i c k s) (hi : i < bs.length) :
    ChainOk bs ls c ∧ c.getD 0 default = i ∧ c.getD (c.length - 1) default = k ∧ k < bs.length ∧ strictTo bs ls c (c.length - 1) = s := by
  induction h with
  | one => exact ⟨⟨by simp, fun x hx => by rw [List.mem_singleton.mp hx]; exact hi, fun k hk => by simp at hk⟩, rfl, rfl, hi, rfl⟩
  | @snoc c j k s o hc hk ho ih =>
    obtain ⟨ok, h0, hl, hj, hs⟩ := ih
    have hpos : 0 < c.length := List.length_pos_iff.mpr ok.ne
    rw [tg_table hj hk] at ho
    have el : (c ++ [k]).length - 1 = c.length := by simp
    have e1 : (c ++ [k]).getD (c.length - 1) default = j := by rw [getD_app (by omega), hl]
    refine ⟨⟨by simp, fun x hx => ?_, fun m hm => ?_⟩, ?_, ?_, hk, ?_⟩
    · rcases List.mem_append.mp hx with z | z
      · exact ok.lt x z
      · rw [List.mem_singleton.mp z]; exact hk
    · simp only [List.length_append, List.length_singleton] at hm
      by_cases z : m + 1 < c.length
      · rw [getD_app (by omega), getD_app z]
        exact ok.st m z
      · have e2 : m = c.length - 1 := by omega
        have e3 : m + 1 = c.length := by omega
        rw [e3, getD_last, e2, e1, ho]
        rfl
    · rw [getD_app hpos, h0]
    · rw [el, getD_last]
    · rw [el]
      have e4 : c.length = (c.length - 1) + 1 := by omega
      rw [e4]
      show (strictTo bs ls (c ++ [k]) (c.length - 1) || _) = _
      have e5 : strictTo bs ls (c ++ [k]) (c.length - 1) = strictTo bs ls c (c.length - 1) := iter_congr fun m y hm => by
        rw [getD_app (by omega), getD_app (by omega)]
      rw [e5, hs, e1, ← e4, getD_last, ho]
      cases o <;> simp
abbrev sp__law_is_ring := spR (A := DataM × List Nat) (fun a => [dyn a.1.buys, dyn a.1.links, dyn a.2]) (fun a => MakeOk a.1 ∧ Chk a.1 (.ring a.2)) (fun _ => RetV true)
theorem ok__law_is_ring {f : Addr} {fd : FuncData} (F : Fun K "_law_is_ring" "_law_is_ring" s__law_is_ring f fd) (B : Bi P mg base) (C_law_steps : Cal P w K mg base 43 "_law_steps" ["_law_buys", "_law_links"] (sp__law_steps K)) (C_law_chain : Cal P w K mg base 41 "_law_chain" ["_law_steps_here", "_law_chain_here"] (sp__law_chain K)) : FnOk P w K mg base CX0 44 f fd ["_law_buys", "_law_links", "_law_chain_here"] (sp__law_is_ring K) :=
  fn_st F sc__law_is_ring (fun _ => rfl) fun cdv A' outer s H E hr => ⟨_,
(pss_one (ps_ret (pe_and (pe_cmpR op_isT (pe_cal C_law_chain (hr.mono (by decide)) (by rfl) (pa_cons (pe_cal C_law_steps (hr.mono (by decide)) (by rfl) (pa_cons (pv 0) (pa_cons (pv 1) pa_nil))) (pa_cons (pv 2) pa_nil))) pe_bl (nomark _)) (pe_one (pe_cmpR op_eq (pe_ix ix_list (pv 2) pe_int (fun _ _ => rfl)) (pe_ix ix_list (pv 2) (pe_un un_neg pe_int) (fun _ _ => rfl)) (nomark _)))))), 
fun ⟨d, c⟩ hp => by
    show StD K [pureS d.buys, pureS d.links, pureS c] _ _
    obtain ⟨hm, ⟨i, hi, hc⟩, hl⟩ : MakeOk d ∧ Chk d (.ring c) := hp
    have h5 := hm.h5
    obtain ⟨ok, e0, e1, _, hs⟩ := hc.facts hi
    have hpos : 0 < c.length := List.length_pos_iff.mpr ok.ne
    refine st_ret (evd_andV (evd_isT (evd_call (d.buys, d.links, c) (eva_cons (evd_call2 (evd_var (x := d.buys) rfl) (evd_var (x := d.links) rfl) ⟨d.goods, hm.ok.buys⟩) (eva_cons (evd_var (x := c) rfl) eva_nil)) ⟨by show d.buys.length ≤ 8; omega, ok, by show c.length ≤ 1000; omega⟩)) fun z => (evd_eqN (evd_ix (EvD.l (evd_var (x := c) rfl)) (evd_nat (i := 0)) hpos) (evd_last (EvD.l (evd_var (x := c) rfl)) ok.ne))) rfl ?_
    simp only
    rw [hs, e0, e1]
    simp
⟩
theorem acc_judge {d : DataM} {t : List Rat × List Rat} (h : judgeM d t = true) : t.1.length = d.buys.length ∧ t.2.length = d.buys.length ∧ accM d.buys d.links t.1 t.2 = true := by
  unfold judgeM at h
  split at h
  · cases h
  · rename_i z
    simp only [Bool.or_eq_true, Bool.not_eq_true', decide_eq_false_iff_not, not_or, Decidable.not_not] at z
    exact ⟨z.1, z.2, h⟩
abbrev sp__law_is_taste := spR (A := DataM × (List Rat × List Rat)) (fun a => [dyn a.1.buys, dyn a.1.links, dyn a.2]) (fun a => MakeOk a.1 ∧ Told a.1 a.2) (fun _ => RetV true)
theorem ok__law_is_taste {f : Addr} {fd : FuncData} (F : Fun K "_law_is_taste" "_law_is_taste" s__law_is_taste f fd) (B : Bi P mg base) (C_law_are_fractions : Cal P w K mg base 42 "_law_are_fractions" ["_law_xs", "_law_many"] (sp__law_are_fractions K)) (C_law_accepts : Cal P w K mg base 42 "_law_accepts" ["_law_buys", "_law_links", "_law_numbers_here", "_law_weights_here"] (sp__law_accepts K)) : FnOk P w K mg base CX0 43 f fd ["_law_buys", "_law_links", "_law_taste"] (sp__law_is_taste K) :=
  fn_st F sc__law_is_taste (fun _ => rfl) fun cdv A' outer s H E hr => ⟨_,
(pss_cons (ps_if (PW.pt (pw_or (pt_not (pt_val (pe_callB call_isi (by rfl) B.isinstance (by decide +kernel) (pa_cons (pv 2) (pa_cons (pe_bltn (v := .ty "tuple") (by rfl) B.tuple (by decide +kernel) rfl) pa_nil))))) (pw_or1 (pt_cmpR op_ne (pe_callB call_len_seq (by rfl) B.len PySem.boot_len (pa_cons (pv 2) pa_nil)) pe_int (nomark _)))))
(pss_one (ps_ret pe_bl))
pss_nil)
(pss_cons (ps_if (PW.pt (pw_or (pt_not (pt_val (pe_cal C_law_are_fractions (hr.mono (by decide)) (by rfl) (pa_cons (pe_ix ix_tup (pv 2) pe_int (fun _ _ => rfl)) (pa_cons (pe_callB call_len_seq (by rfl) B.len PySem.boot_len (pa_cons (pv 0) pa_nil)) pa_nil))))) (pw_or1 (pt_not (pt_val (pe_cal C_law_are_fractions (hr.mono (by decide)) (by rfl) (pa_cons (pe_ix ix_tup (pv 2) pe_int (fun _ _ => rfl)) (pa_cons (pe_callB call_len_seq (by rfl) B.len PySem.boot_len (pa_cons (pv 0) pa_nil)) pa_nil))))))))
(pss_one (ps_ret pe_bl))
pss_nil)
(pss_one (ps_ret (pe_cal C_law_accepts (hr.mono (by decide)) (by rfl) (pa_cons (pv 0) (pa_cons (pv 1) (pa_cons (pe_ix ix_tup (pv 2) pe_int (fun _ _ => rfl)) (pa_cons (pe_ix ix_tup (pv 2) pe_int (fun _ _ => rfl)) pa_nil))))))))), 
fun ⟨d, t⟩ hp => by
    show StD K [pureS d.buys, pureS d.links, pureS t] _ _
    obtain ⟨hm, ht⟩ : MakeOk d ∧ Told d t := hp
    obtain ⟨l1, l2, ha⟩ := acc_judge ht.ok
    refine st_seq (st_if (b := false) (evb_or (a := false) (b := false) (evb_not (a := true) (evb_B (evd_isi (b := true) (evd_var (x := t) rfl) ty_pair rfl))) fun z => (evb_test ((evd_neN (len_ofP (evd_var (x := t) rfl)) (evd_nat (i := 2))).to rfl))) (fun h => nomatch h) (fun h => st_next ?_))
    refine st_seq (st_if (b := false) (evb_or (a := false) (b := false) (evb_not (a := true) (evb_B (evd_call2 (evd_fst (evd_var (x := t) rfl)) (len_of (EvD.l (evd_var (x := d.buys) rfl))) ⟨fun x hx => (ht.f1 x hx).mono (by decide), l1⟩))) fun z => (evb_not (a := true) (evb_B (evd_call2 (evd_snd (evd_var (x := t) rfl)) (len_of (EvD.l (evd_var (x := d.buys) rfl))) ⟨fun x hx => (ht.f2 x hx).mono (by decide), l2⟩)))) (fun h => nomatch h) (fun h => st_next ?_))
    refine st_ret (evd_call4 (evd_var (x := d.buys) rfl) (evd_var (x := d.links) rfl) (evd_fst (evd_var (x := t) rfl)) (evd_snd (evd_var (x := t) rfl)) ⟨d.goods, hm.ok.buys, hm.ok.links, l1, l2, fun x hx => (ht.f1 x hx).mono (by decide), fun x hx => (ht.f2 x hx).mono (by decide)⟩) rfl ha
⟩
def kindM : Found → Str
  | .ring _ => "ring"
  | .taste _ => "taste"
abbrev sp__law_kind := spR (A := DataM × Found) (fun a => [dyn a.1.buys, dyn a.1.links, dyn a.2]) (fun a => MakeOk a.1 ∧ Chk a.1 a.2) (fun a => RetV (kindM a.2))
theorem ok__law_kind {f : Addr} {fd : FuncData} (F : Fun K "_law_kind" "_law_kind" s__law_kind f fd) (B : Bi P mg base) (C_law_is_ring : Cal P w K mg base 44 "_law_is_ring" ["_law_buys", "_law_links", "_law_chain_here"] (sp__law_is_ring K)) (C_law_is_taste : Cal P w K mg base 43 "_law_is_taste" ["_law_buys", "_law_links", "_law_taste"] (sp__law_is_taste K)) : FnOk P w K mg base CX0 45 f fd ["_law_buys", "_law_links", "_law_found"] (sp__law_kind K) :=
  fn_st F sc__law_kind (fun _ => rfl) fun cdv A' outer s H E hr => ⟨_,
(pss_cons (ps_if (PW.pt (pw_or (pt_not (pt_val (pe_callB call_isi (by rfl) B.isinstance (by decide +kernel) (pa_cons (pv 2) (pa_cons (pe_bltn (v := .ty "tuple") (by rfl) B.tuple (by decide +kernel) rfl) pa_nil))))) (pw_or (pt_cmpR op_ne (pe_callB call_len_seq (by rfl) B.len PySem.boot_len (pa_cons (pv 2) pa_nil)) pe_int (nomark _)) (pw_or1 (pt_not (pt_val (pe_callB call_isi (by rfl) B.isinstance (by decide +kernel) (pa_cons (pe_ix ix_tup (pv 2) pe_int (fun _ _ => rfl)) (pa_cons (pe_bltn (v := .ty "str") (by rfl) B.str (by decide +kernel) rfl) pa_nil)))))))))
(pss_one (ps_ret pe_str))
pss_nil)
(pss_cons (ps_if (PW.pt (pw_and (pt_cmpR op_eq (pe_ix ix_tup (pv 2) pe_int (fun _ _ => rfl)) pe_str (nomark _)) (pw_and1 (pt_val (pe_cal C_law_is_ring (hr.mono (by decide)) (by rfl) (pa_cons (pv 0) (pa_cons (pv 1) (pa_cons (pe_ix ix_tup (pv 2) pe_int (fun _ _ => rfl)) pa_nil))))))))
(pss_one (ps_ret pe_str))
pss_nil)
(pss_cons (ps_if (PW.pt (pw_and (pt_cmpR op_eq (pe_ix ix_tup (pv 2) pe_int (fun _ _ => rfl)) pe_str (nomark _)) (pw_and1 (pt_val (pe_cal C_law_is_taste (hr.mono (by decide)) (by rfl) (pa_cons (pv 0) (pa_cons (pv 1) (pa_cons (pe_ix ix_tup (pv 2) pe_int (fun _ _ => rfl)) pa_nil))))))))
(pss_one (ps_ret pe_str))
pss_nil)
(pss_one (ps_ret pe_str))))), 
fun ⟨d, x⟩ hp => by
    show StD K [pureS d.buys, pureS d.links, pureS x] _ _
    obtain ⟨hm, hx⟩ : MakeOk d ∧ Chk d x := hp
    cases x with
    | ring c =>
      show StD K [pureS d.buys, pureS d.links, pureS (("ring" : Str), c)] _ _
      refine st_seq (st_if (b := false) (evb_or (a := false) (b := false) (evb_not (a := true) (evb_B (evd_isi (b := true) (evd_var (x := (("ring" : Str), c)) rfl) ty_pair rfl))) fun z => (evb_or (a := false) (b := false) (evb_test ((evd_neN (len_ofP (evd_var (x := (("ring" : Str), c)) rfl)) (evd_nat (i := 2))).to rfl)) fun z => (evb_not (a := true) (evb_B (evd_isi (b := true) (evd_fst (evd_var (x := (("ring" : Str), c)) rfl)) ty_str rfl))))) (fun h => nomatch h) (fun h => st_next ?_))
      refine st_seq (st_if (b := true) (evb_and (a := true) (b := true) (evb_test ((evd_eqS (i := "ring") (evd_fst (evd_var (x := (("ring" : Str), c)) rfl)) evd_str).to (by decide))) fun z => (evb_B (evd_call (d, c) (eva_cons (evd_var (x := d.buys) rfl) (eva_cons (evd_var (x := d.links) rfl) (eva_cons (EvD.to (x := c) (evd_snd (evd_var (x := (("ring" : Str), c)) rfl)) rfl) eva_nil))) ⟨hm, hx⟩))) (fun h => ?_) (fun h => nomatch h))
      exact st_ret evd_str rfl rfl
    | taste t =>
      show StD K [pureS d.buys, pureS d.links, pureS (("taste" : Str), t)] _ _
      refine st_seq (st_if (b := false) (evb_or (a := false) (b := false) (evb_not (a := true) (evb_B (evd_isi (b := true) (evd_var (x := (("taste" : Str), t)) rfl) ty_pair rfl))) fun z => (evb_or (a := false) (b := false) (evb_test ((evd_neN (len_ofP (evd_var (x := (("taste" : Str), t)) rfl)) (evd_nat (i := 2))).to rfl)) fun z => (evb_not (a := true) (evb_B (evd_isi (b := true) (evd_fst (evd_var (x := (("taste" : Str), t)) rfl)) ty_str rfl))))) (fun h => nomatch h) (fun h => st_next ?_))
      refine st_seq (st_if (b := false) (evb_and (a := false) (b := false) (evb_test ((evd_eqS (i := "taste") (evd_fst (evd_var (x := (("taste" : Str), t)) rfl)) evd_str).to (by decide))) fun z => nomatch z) (fun h => nomatch h) (fun h => st_next ?_))
      refine st_seq (st_if (b := true) (evb_and (a := true) (b := true) (evb_test ((evd_eqS (i := "taste") (evd_fst (evd_var (x := (("taste" : Str), t)) rfl)) evd_str).to (by decide))) fun z => (evb_B (evd_call (d, t) (eva_cons (evd_var (x := d.buys) rfl) (eva_cons (evd_var (x := d.links) rfl) (eva_cons (EvD.to (x := t) (evd_snd (evd_var (x := (("taste" : Str), t)) rfl)) rfl) eva_nil))) ⟨hm, hx.2⟩))) (fun h => ?_) (fun h => nomatch h))
      exact st_ret evd_str rfl rfl
⟩
end BB

/-! the law's tastes: weights, numbers, worth; whether numbers fall along the steps -/
namespace BB
open PySem PySem.Spec L2
variable {P : Program} {w : World} {K : KF} {mg : Str → Option Value} {base : Heap} {aZ aO : Addr}
abbrev s__law_weights : Stmt := topS 58
abbrev N__law_weights : List Str := ["_law_row_here", "_law_buys", "_law_weights_here", "_law_k", "_law_money"]
theorem sc__law_weights : FnScope N__law_weights ["_law_row_here", "_law_buys"] (defScope s__law_weights) := ⟨rfl, rfl, rfl, by decide +kernel, rfl, by decide +kernel, by decide +kernel⟩

abbrev s__law_numbers : Stmt := topS 59
abbrev N__law_numbers : List Str := ["_law_buys", "_law_links", "_law_weights_here", "_law_count", "_law_numbers_here", "_law_i", "_law_j", "_law_rises", "_law_turn", "_law_told", "_law_strict", "_law_k"]
theorem sc__law_numbers : FnScope N__law_numbers ["_law_buys", "_law_links", "_law_weights_here"] (defScope s__law_numbers) := ⟨rfl, rfl, rfl, by decide +kernel, rfl, by decide +kernel, by decide +kernel⟩

abbrev s__law_falls_along : Stmt := topS 62
abbrev N__law_falls_along : List Str := ["_law_steps_here", "_law_numbers_here", "_law_i", "_law_j", "_law_over_here"]
theorem sc__law_falls_along : FnScope N__law_falls_along ["_law_steps_here", "_law_numbers_here"] (defScope s__law_falls_along) := ⟨rfl, rfl, rfl, by decide +kernel, rfl, by decide +kernel, by decide +kernel⟩

abbrev s__law_worth : Stmt := topS 63
abbrev N__law_worth : List Str := ["_law_buys", "_law_numbers_here", "_law_weights_here", "_law_basket", "_law_best", "_law_i", "_law_told"]
theorem sc__law_worth : FnScope N__law_worth ["_law_buys", "_law_numbers_here", "_law_weights_here", "_law_basket"] (defScope s__law_worth) := ⟨rfl, rfl, rfl, by decide +kernel, rfl, by decide +kernel, by decide +kernel⟩

theorem dot_nn {ps as : List Rat} (hp : ∀ x ∈ ps, 0 < x) (ha : ∀ x ∈ as, 0 ≤ x) (hl : ps.length = as.length) : ∀ k, k ≤ ps.length → 0 ≤ iter k (fun k t => t + ps.getD k default * as.getD k default) 0
  | 0, _ => Rat.le_refl
  | k + 1, h => by
    have ih := dot_nn hp ha hl k (by omega)
    have h1 := Rat.mul_nonneg (Rat.le_of_lt (hp _ (mem_getD (l := ps) (k := k) (by omega)))) (ha _ (mem_getD (l := as) (k := k) (by omega)))
    show 0 ≤ iter k (fun k t => t + ps.getD k default * as.getD k default) 0 + ps.getD k default * as.getD k default
    grind
theorem dot_gt {ps as : List Rat} (hp : ∀ x ∈ ps, 0 < x) (ha : ∀ x ∈ as, 0 ≤ x) (hl : ps.length = as.length) {m : Nat} (hm : m < ps.length) (hx : 0 < as.getD m default) : ∀ k, k ≤ ps.length → m < k → 0 < iter k (fun k t => t + ps.getD k default * as.getD k default) 0
  | 0, _, h => absurd h (Nat.not_lt_zero _)
  | k + 1, h, hk => by
    show 0 < iter k (fun k t => t + ps.getD k default * as.getD k default) 0 + ps.getD k default * as.getD k default
    by_cases z : m < k
    · have ih := dot_gt hp ha hl hm hx k (by omega) z
      have h1 := Rat.mul_nonneg (Rat.le_of_lt (hp _ (mem_getD (l := ps) (k := k) (by omega)))) (ha _ (mem_getD (l := as) (k := k) (by omega)))
      grind
    · have e : m = k := by omega
      subst e
      have ih := dot_nn hp ha hl m (by omega)
      have h1 := Rat.mul_pos (hp _ (mem_getD (l := ps) (k := m) (by omega))) hx
      grind
theorem BuyP.spent {g : Nat} {b : Buy} (h : BuyP g b) : 0 < dotM b.1 b.2 := by
  obtain ⟨x, hx, h0⟩ := h.ex
  obtain ⟨m, hm, e⟩ := List.getElem_of_mem hx
  have hl : b.1.length = b.2.length := by rw [h.s.l1, h.s.l2]
  refine dot_gt h.s.p0 h.s.a0 hl (m := m) (by omega) ?_ b.1.length (Nat.le_refl _) (by omega)
  rw [List.getD_eq_getElem?_getD, List.getElem?_eq_getElem hm]
  show 0 < b.2[m]
  rw [e]
  exact h0
/-- so many fractions, not too large -/
structure RL (n m : Nat) (l : List Rat) : Prop where
  len : l.length = n
  f : FitL m l
theorem RL.add {n m : Nat} {l : List Rat} {x : Rat} (h : RL n m l) (hx : FitR m x) : RL (n + 1) m (l ++ [x]) :=
  ⟨by rw [List.length_append, h.len]; rfl, fun y hy => by
    rcases List.mem_append.mp hy with z | z
    · exact h.f y z
    · rw [List.mem_singleton.mp z]; exact hx⟩
theorem RL.set {n m m' : Nat} {l : List Rat} {x : Rat} {k : Nat} (h : RL n m l) (hx : FitR m' x) (hm : m ≤ m') : RL n m' (l.set k x) :=
  ⟨by rw [List.length_set, h.len], fun y hy => by
    rcases List.mem_or_eq_of_mem_set hy with z | z
    · exact (h.f y z).mono hm
    · rw [z]; exact hx⟩
theorem RL.mono {n m m' : Nat} {l : List Rat} (h : RL n m l) (hm : m ≤ m') : RL n m' l := ⟨h.len, fun x hx => (h.f x hx).mono hm⟩
structure LW (r : List Int) (g : Nat) (bs : List Buy) : Prop where
  r : RowR 13 r
  g4 : g ≤ 4
  l5 : bs.length ≤ 5
  b : ∀ b ∈ bs, BuyP g b
theorem buys_of {g : Nat} {bs : List Buy} (g4 : g ≤ 4) (l5 : bs.length ≤ 5) (h : ∀ b ∈ bs, BuyP g b) : BuysOk g bs := ⟨g4, by omega, fun b hb => (h b hb).ok⟩
abbrev sp__law_weights := spR (A := List Int × List Buy) (fun a => [dyn a.1, dyn a.2]) (fun a => ∃ g, LW a.1 g a.2) (fun a => RetP (RL a.2.length 600))
theorem ok__law_weights {f : Addr} {fd : FuncData} (F : Fun K "_law_weights" "_law_weights" s__law_weights f fd) (B : Bi P mg base) (C_law_lowest : Cal P w K mg base 41 "_law_lowest" ["_law_p", "_law_q"] (sp__law_lowest K)) (C_law_dot : Cal P w K mg base 40 "_law_dot" ["_law_a", "_law_b"] (sp__law_dot K)) : FnOk P w K mg base CX0 42 f fd ["_law_row_here", "_law_buys"] (sp__law_weights K) :=
  fn_st F sc__law_weights (fun _ => rfl) fun cdv A' outer s H E hr => ⟨_,
(pss_cons (ps_set (i := 2) sc__law_weights.nd rfl (.inl rfl) (pe_lst pa_nil))
(pss_cons (ps_for PassesOwn.never rfl (pi_range1 (by rfl) B.range (pa_cons (pe_callB call_len_seq (by rfl) B.len PySem.boot_len (pa_cons (pv 1) pa_nil)) pa_nil)) (pg_name (i := 3) sc__law_weights.nd rfl (.inl rfl))
(pss_cons (ps_set (i := 4) sc__law_weights.nd rfl (.inl rfl) (pe_cal C_law_dot (hr.mono (by decide)) (by rfl) (pa_cons (pe_ix ix_tup (pe_ix ix_list (pv 1) (pv 3) (fun _ _ => rfl)) pe_int (fun _ _ => rfl)) (pa_cons (pe_ix ix_tup (pe_ix ix_list (pv 1) (pv 3) (fun _ _ => rfl)) pe_int (fun _ _ => rfl)) pa_nil))))
(pss_one (ps_if (pt_cmpR op_eq (pe_op op_mod (pe_callTy call_int1 (by rfl) B.int (by decide +kernel) (pa_cons (pe_ix ix_list (pv 0) pe_int (fun _ _ => rfl)) pa_nil)) pe_int) pe_int (nomark _))
(pss_one (ps_expr (pe_bm PySem.F.plainAttrs_list PySem.F.slot_list_append PySem.F.type_list_append mt_append (pv 2) (pa_cons (pe_tup (pa_cons pe_int (pa_cons pe_int pa_nil))) pa_nil))))
(pss_one (ps_if (pt_cmpR op_eq (pe_op op_mod (pe_callTy call_int1 (by rfl) B.int (by decide +kernel) (pa_cons (pe_ix ix_list (pv 0) pe_int (fun _ _ => rfl)) pa_nil)) pe_int) pe_int (nomark _))
(pss_one (ps_expr (pe_bm PySem.F.plainAttrs_list PySem.F.slot_list_append PySem.F.type_list_append mt_append (pv 2) (pa_cons (pe_cal C_law_lowest (hr.mono (by decide)) (by rfl) (pa_cons (pe_ix ix_tup (pv 4) pe_int (fun _ _ => rfl)) (pa_cons (pe_ix ix_tup (pv 4) pe_int (fun _ _ => rfl)) pa_nil))) pa_nil))))
(pss_one (ps_expr (pe_bm PySem.F.plainAttrs_list PySem.F.slot_list_append PySem.F.type_list_append mt_append (pv 2) (pa_cons (pe_cal C_law_lowest (hr.mono (by decide)) (by rfl) (pa_cons (pe_op op_add pe_int (pe_op op_mod (pe_callTy call_int1 (by rfl) B.int (by decide +kernel) (pa_cons (pe_ix ix_list (pv 0) (pe_op op_add pe_int (pe_op op_mulA pe_int (pv 3))) (fun _ _ => rfl)) pa_nil)) pe_int)) (pa_cons (pe_op op_add pe_int (pe_op op_mod (pe_callTy call_int1 (by rfl) B.int (by decide +kernel) (pa_cons (pe_ix ix_list (pv 0) (pe_op op_add pe_int (pe_op op_mulA pe_int (pv 3))) (fun _ _ => rfl)) pa_nil)) pe_int)) pa_nil))) pa_nil))))))))))
(pss_one (ps_ret (pv 2))))), 
fun ⟨r, bs⟩ hp => by
    show StD K [pureS r, pureS bs, none, none, none] _ _
    obtain ⟨g, hr, g4, l5, hb⟩ : ∃ g, LW r g bs := hp
    have hrl := hr.len
    have hB := buys_of g4 l5 hb
    refine st_seq (st_own (evn_nil (α := Rat)) ?_)
    refine st_seq (st_forR (fun k G' => ∃ l s3 s4, G' = [pureS r, pureS bs, ownS l, s3, s4] ∧ RL k 600 l) (len_of (EvD.l (evd_var (x := bs) rfl))) (by omega) ⟨_, _, _, rfl, rfl, fun _ h => nomatch h⟩ (fun k G' hk hI => ?_) fun G' hI => ?_)
    · obtain ⟨l, s3, s4, rfl, hI⟩ := hI
      have hll := hI.len
      have hbk := hb _ (mem_getD hk)
      have dk := hB.dot hk (hB.bas hk)
      have um := dotU_uv dk
      have hpos : 0 < (dotU (bs.getD k default).1 (bs.getD k default).2 (bs.getD k default).1.length).1 := by
        have h1 := (divInt_sgn (p := (dotU (bs.getD k default).1 (bs.getD k default).2 (bs.getD k default).1.length).1) um.pos).1
        rw [um.v] at h1
        exact h1.mp hbk.spent
      refine st_seq (st_set (x := dotU (bs.getD k default).1 (bs.getD k default).2 (bs.getD k default).1.length) (evd_call2 (evd_fst (evd_ix (EvD.l (evd_var (x := bs) rfl)) (evd_var (x := k) rfl) hk)) (evd_snd (evd_ix (EvD.l (evd_var (x := bs) rfl)) (evd_var (x := k) rfl) hk)) dk) ?_)
      generalize dotU (bs.getD k default).1 (bs.getD k default).2 (bs.getD k default).1.length = m at *
      refine st_if (evb_test (evd_eqI (evd_mod (evd_intc (evd_ix (EvD.l (evd_var (x := r) rfl)) (evd_nat (i := 0)) (by omega))) evd_int (by decide)) evd_int)) (fun h => ?_) (fun h => ?_)
      · exact st_app rfl (x := (1 : Rat)) (EvD.rat (evd_tup2 evd_int evd_int) rfl) (by omega) ⟨_, _, _, rfl, hI.add (fit_one (by decide))⟩
      · refine st_if (evb_test (evd_eqI (evd_mod (evd_intc (evd_ix (EvD.l (evd_var (x := r) rfl)) (evd_nat (i := 0)) (by omega))) evd_int (by decide)) evd_int)) (fun h => ?_) (fun h => ?_)
        · exact st_app rfl (evd_call2 (evd_snd (evd_var (x := m) rfl)) (evd_fst (evd_var (x := m) rfl)) ⟨hpos, um.f1.mono (by decide)⟩) (by omega) ⟨_, _, _, rfl, hI.add (fit_divInt (um.f2.mono (by decide)) (um.f1.mono (by decide)) (by omega))⟩
        · have k2 : ∀ {G : GEnv}, G[3]? = some (pureS k) → EvD K G (tOp (rI IntMulOk fun i j => .int (i * j)) (tC (.int 2)) (tVar 3)) (2 * (k : Int)) := fun hG => evd_mul evd_int (EvD.int (evd_var hG)) (Fit.mulOk fit_c (fit_b (i := (k : Int)) (by omega) (by omega)) (by decide))
          have m1 := dmod (m := 20) hr.d (j := 1 + 2 * k) (by omega) (by decide)
          have m2 := dmod (m := 4) hr.d (j := 2 + 2 * k) (by omega) (by decide)
          have b1 := pa_low (n := 0) (p := 1 + r.getD (1 + 2 * k) default % 20) (q := 1 + r.getD (2 + 2 * k) default % 4) (k := 45) (by omega) (by omega) (by omega) (by omega) (by decide)
          exact st_app rfl (evd_call2 (evd_add evd_int (evd_mod (evd_intc (ixN (EvD.l (evd_var (x := r) rfl)) (evd_add evd_int (k2 rfl)) (j := 1 + 2 * k) (by omega) (by omega))) evd_int (by decide))) (evd_add evd_int (evd_mod (evd_intc (ixN (EvD.l (evd_var (x := r) rfl)) (evd_add evd_int (k2 rfl)) (j := 2 + 2 * k) (by omega) (by omega))) evd_int (by decide))) ⟨by omega, fit_lit (by omega)⟩) (by omega) ⟨_, _, _, rfl, hI.add (b1.1.mono (by decide))⟩
    · obtain ⟨l, s3, s4, rfl, hI⟩ := hI
      exact st_freeze 2 rfl (st_retP (EvD.p (R := fun x => x = l) (evd_var rfl) rfl) rfl fun x hx => by rw [hx]; exact hI)
⟩
/-! ### numbers -/
structure LN (g : Nat) (bs : List Buy) (ls : List Link) (ws : List Rat) : Prop where
  buys : BuysOk g bs
  l5 : bs.length ≤ 5
  links : LinksOk bs.length ls
  ll : ls.length ≤ 4
  ws : RL bs.length 600 ws
def riseM (bs : List Buy) (ws : List Rat) : List (List (Int × Int)) := (List.range bs.length).map fun i => (List.range bs.length).map fun j => mulU (prU (ws.getD i default)) (gapU bs i (bs.getD j default).2)
theorem rise_at {bs : List Buy} {ws : List Rat} {i j : Nat} (hi : i < bs.length) (hj : j < bs.length) : ((riseM bs ws).getD i default).getD j default = mulU (prU (ws.getD i default)) (gapU bs i (bs.getD j default).2) := by
  unfold riseM
  simp [List.getD_eq_getElem?_getD, List.getElem?_map, List.getElem?_range hi, List.getElem?_range hj]
theorem rise_len {bs : List Buy} {ws : List Rat} : (riseM bs ws).length = bs.length := by simp [riseM]
theorem rise_len2 {bs : List Buy} {ws : List Rat} {i : Nat} (hi : i < bs.length) : ((riseM bs ws).getD i default).length = bs.length := by
  unfold riseM
  simp [List.getD_eq_getElem?_getD, List.getElem?_map, List.getElem?_range hi]
def nb (c : Nat) : Nat := 1 + 1650 * c
theorem nb_le {c d : Nat} (h : c ≤ d) : nb c ≤ nb d := by
  unfold nb
  omega
theorem fit_neg1 {b : Bool} : UV 1 ((-(if b then (1 : Int) else 0), (1 : Int)) : Int × Int) (if b then -1 else 0) := by
  cases b
  · exact ⟨by decide, (fit_zero (show 0 < 1 by decide)).1, (fit_zero (show 0 < 1 by decide)).2, Rat.zero_divInt 1⟩
  · refine ⟨by decide, (fit_one (show 0 < 1 by decide)).1.neg, (fit_zero (show 0 < 1 by decide)).2, ?_⟩
    show Rat.divInt (-1) 1 = -1
    rfl
abbrev sp__law_numbers := spR (A := List Buy × List Link × List Rat) (fun a => [dyn a.1, dyn a.2.1, dyn a.2.2]) (fun a => ∃ g, LN g a.1 a.2.1 a.2.2) (fun a => RetP (RL a.1.length 1000000))
theorem ok__law_numbers {f : Addr} {fd : FuncData} (F : Fun K "_law_numbers" "_law_numbers" s__law_numbers f fd) (B : Bi P mg base) (C_law_lowest : Cal P w K mg base 41 "_law_lowest" ["_law_p", "_law_q"] (sp__law_lowest K)) (C_law_gap : Cal P w K mg base 41 "_law_gap" ["_law_buys", "_law_i", "_law_basket"] (sp__law_gap K)) (C_law_add : Cal P w K mg base 40 "_law_add" ["_law_a", "_law_b"] (sp__law_add K)) (C_law_mul : Cal P w K mg base 40 "_law_mul" ["_law_a", "_law_b"] (sp__law_mul K)) (C_law_over : Cal P w K mg base 40 "_law_over" ["_law_a", "_law_b"] (sp__law_over K)) : FnOk P w K mg base CX0 42 f fd ["_law_buys", "_law_links", "_law_weights_here"] (sp__law_numbers K) :=
  fn_st F sc__law_numbers (fun _ => rfl) fun cdv A' outer s H E hr => ⟨_,
(pss_cons (ps_set (i := 3) sc__law_numbers.nd rfl (.inr rfl) (pe_callB call_len_seq (by rfl) B.len PySem.boot_len (pa_cons (pv 0) pa_nil)))
(pss_cons (ps_setLc (i := 4) (own := [("_law_k", 11)]) (g := gName 11) (tt := tYes) rfl sc__law_numbers.nd rfl rfl (sw_true rfl rfl rfl (by decide +kernel)) (pi_range1 (by rfl) B.range (pa_cons (pv 3) pa_nil)) (blkOk_by (N := N__law_numbers) (sc := defScope s__law_numbers) (by decide +kernel)) (fun _ _ _ _ _ => (pg_name (i := 11) sc__law_numbers.nd rfl (.inl rfl))) (fun _ _ _ _ _ => pts_nil) (fun _ _ _ _ _ => (pe_tup (pa_cons pe_int (pa_cons pe_int pa_nil)))))
(pss_cons (ps_setLc (i := 7) (own := [("_law_i", 5)]) (g := gName 5) (tt := tYes) rfl sc__law_numbers.nd rfl rfl (sw_true rfl rfl rfl (by decide +kernel)) (pi_range1 (by rfl) B.range (pa_cons (pv 3) pa_nil)) (blkOk_by (N := N__law_numbers) (sc := defScope s__law_numbers) (by decide +kernel)) (fun _ _ _ _ _ => (pg_name (i := 5) sc__law_numbers.nd rfl (.inr rfl))) (fun _ _ _ _ _ => pts_nil) (fun _ _ _ _ _ => (pe_lc (own := [("_law_j", 6)]) (g := gName 6) (tt := tYes) rfl sc__law_numbers.nd (pi_range1 (by rfl) B.range (pa_cons (pv 3) pa_nil)) (blkOk_by (N := N__law_numbers) (sc := (relS { kind := .function, names := [(".0", .local), ("_law_i", .cell), ("range", .globalImplicit), ("_law_buys", .free), ("_law_count", .free), ("_law_weights_here", .free)], isGenerator := false, isCoroutine := false, more := [] } (defScope s__law_numbers))) (by decide +kernel)) (fun _ _ _ _ _ => (pg_name (i := 6) sc__law_numbers.nd rfl (.inl rfl))) (fun _ _ _ _ _ => pts_nil) (fun _ _ _ _ _ => (pe_cal C_law_mul (hr.mono (by decide)) (by rfl) (pa_cons (pe_ix ix_list (pv 2) (pv 5) (fun _ _ => rfl)) (pa_cons (pe_cal C_law_gap (hr.mono (by decide)) (by rfl) (pa_cons (pv 0) (pa_cons (pv 5) (pa_cons (pe_ix ix_tup (pe_ix ix_list (pv 0) (pv 6) (fun _ _ => rfl)) pe_int (fun _ _ => rfl)) pa_nil)))) pa_nil)))))))
(pss_cons (ps_for PassesOwn.never rfl (pi_range1 (by rfl) B.range (pa_cons (pv 3) pa_nil)) (pg_name (i := 8) sc__law_numbers.nd rfl (.inl rfl))
(pss_cons (ps_for PassesOwn.never rfl (pi_range1 (by rfl) B.range (pa_cons (pv 3) pa_nil)) (pg_name (i := 5) sc__law_numbers.nd rfl (.inl rfl))
(pss_one (ps_for PassesOwn.never rfl (pi_range1 (by rfl) B.range (pa_cons (pv 3) pa_nil)) (pg_name (i := 6) sc__law_numbers.nd rfl (.inl rfl))
(pss_cons (ps_set (i := 9) sc__law_numbers.nd rfl (.inl rfl) (pe_cal C_law_add (hr.mono (by decide)) (by rfl) (pa_cons (pe_ix ix_list (pv 4) (pv 5) (fun _ _ => rfl)) (pa_cons (pe_ix ix_list (pe_ix ix_list (pv 7) (pv 5) (fun _ _ => rfl)) (pv 6) (fun _ _ => rfl)) pa_nil))))
(pss_one (ps_if (pt_cmpR op_lt (pe_cal C_law_over (hr.mono (by decide)) (by rfl) (pa_cons (pv 9) (pa_cons (pe_ix ix_list (pv 4) (pv 6) (fun _ _ => rfl)) pa_nil))) pe_int (nomark _))
(pss_one (ps_asg (pe_cal C_law_lowest (hr.mono (by decide)) (by rfl) (pa_cons (pe_ix ix_tup (pv 9) pe_int (fun _ _ => rfl)) (pa_cons (pe_ix ix_tup (pv 9) pe_int (fun _ _ => rfl)) pa_nil))) (pg_sub (pv 4) (pv 6) set_list)))
pss_nil))))))
(pss_one (ps_for PassesOwn.never rfl (pi_list (pv 1)) (pg_tup rfl (pgs_cons (pg_name (i := 5) sc__law_numbers.nd rfl (.inl rfl)) (pgs_cons (pg_name (i := 6) sc__law_numbers.nd rfl (.inl rfl)) (pgs_cons (pg_name (i := 10) sc__law_numbers.nd rfl (.inl rfl)) pgs_nil))))
(pss_cons (ps_set (i := 9) sc__law_numbers.nd rfl (.inl rfl) (pe_cal C_law_add (hr.mono (by decide)) (by rfl) (pa_cons (pe_ix ix_list (pv 4) (pv 5) (fun _ _ => rfl)) (pa_cons (pe_tup (pa_cons (pe_un un_neg (pe_callTy call_int1 (by rfl) B.int (by decide +kernel) (pa_cons (pv 10) pa_nil))) (pa_cons pe_int pa_nil))) pa_nil))))
(pss_one (ps_if (pt_cmpR op_lt (pe_cal C_law_over (hr.mono (by decide)) (by rfl) (pa_cons (pv 9) (pa_cons (pe_ix ix_list (pv 4) (pv 6) (fun _ _ => rfl)) pa_nil))) pe_int (nomark _))
(pss_one (ps_asg (pe_cal C_law_lowest (hr.mono (by decide)) (by rfl) (pa_cons (pe_ix ix_tup (pv 9) pe_int (fun _ _ => rfl)) (pa_cons (pe_ix ix_tup (pv 9) pe_int (fun _ _ => rfl)) pa_nil))) (pg_sub (pv 4) (pv 6) set_list)))
pss_nil)))))))
(pss_one (ps_ret (pv 4))))))), 
fun ⟨bs, ls, ws⟩ hp => by
    show StD K [pureS bs, pureS ls, pureS ws, none, none, none, none, none, none, none, none, none] _ _
    obtain ⟨g, hB, l5, hL, ll, hW⟩ : ∃ g, LN g bs ls ws := hp
    have hwl := hW.len
    have hrl := rise_len (bs := bs) (ws := ws)
    have urs : ∀ i j, i < bs.length → j < bs.length → UV 1643 (mulU (prU (ws.getD i default)) (gapU bs i (bs.getD j default).2)) (ws.getD i default * gapM bs i (bs.getD j default).2) := fun i j hi hj => (UV.pr (hW.f.getD (k := i) (by omega))).mul (gap_uv ⟨hB, hi, hB.bas hj⟩) (by decide)
    refine st_seq (st_set (x := bs.length) (len_of (EvD.l (evd_var (x := bs) rfl))) ?_)
    refine st_seq (st_own (evn_lcR0 (fun k => (0 : Rat)) (evd_var (x := bs.length) rfl) (by omega) (by decide) (fun k hk => EvD.rat (evd_tup2 evd_int evd_int) rfl)) ?_)
    refine st_seq (st_set (x := riseM bs ws) (EvN.d (evn_lcR0 (fun i => (List.range bs.length).map fun j => mulU (prU (ws.getD i default)) (gapU bs i (bs.getD j default).2)) (evd_var (x := bs.length) rfl) (by omega) (by decide) (fun i hi => (EvN.d (evn_lcR0 (fun j => mulU (prU (ws.getD i default)) (gapU bs i (bs.getD j default).2)) (evd_var (x := bs.length) rfl) (by omega) (by decide) (fun j hj =>
      (evd_call2 (EvD.pr (evd_ix (EvD.l (evd_var (x := ws) rfl)) (evd_var (x := i) rfl) (by omega))) (evd_call3 (evd_var (x := bs) rfl) (evd_var (x := i) rfl) (evd_snd (evd_ix (EvD.l (evd_var (x := bs) rfl)) (evd_var (x := j) rfl) hj)) ⟨g, hB, hi, hB.bas hj⟩) ⟨(UV.pr (hW.f.getD (k := i) (by omega))).sm (by decide), (gap_uv ⟨hB, hi, hB.bas hj⟩).sm (by decide)⟩))))))) ?_)
    refine st_seq (st_forR (fun t G' => ∃ N s5 s6 s8 s9 s10, G' = [pureS bs, pureS ls, pureS ws, pureS bs.length, ownS N, s5, s6, pureS (riseM bs ws), s8, s9, s10, none] ∧ RL bs.length (nb (29 * t)) N) (evd_var (x := bs.length) rfl) (by omega) ⟨_, _, _, _, _, _, rfl, by simp, fun x hx => by
      obtain ⟨_, _, rfl⟩ := List.mem_map.mp hx
      exact fit_zero (by decide)⟩ (fun t G' ht hI => ?_) fun G' hI => ?_)
    · obtain ⟨N, s5, s6, s8, s9, s10, rfl, hI⟩ := hI
      refine st_seq (st_forR (fun i G' => ∃ N s5 s6 s9, G' = [pureS bs, pureS ls, pureS ws, pureS bs.length, ownS N, s5, s6, pureS (riseM bs ws), pureS t, s9, s10, none] ∧ RL bs.length (nb (29 * t + 5 * i)) N) (evd_var (x := bs.length) rfl) (by omega) ⟨_, _, _, _, rfl, hI⟩ (fun i G' hi hI => ?_) fun G' hI => ?_)
      · obtain ⟨N, s5, s6, s9, rfl, hI⟩ := hI
        refine st_forR (fun j G' => ∃ N s6 s9, G' = [pureS bs, pureS ls, pureS ws, pureS bs.length, ownS N, pureS i, s6, pureS (riseM bs ws), pureS t, s9, s10, none] ∧ RL bs.length (nb (29 * t + 5 * i + j)) N) (evd_var (x := bs.length) rfl) (by omega) ⟨_, _, _, rfl, hI⟩ (fun j G' hj hI => ?_) fun G' hI => ?_
        · obtain ⟨N, s6, s9, rfl, hI⟩ := hI
          have hNl := hI.len
          have hle : nb (29 * t + 5 * i + j) ≤ 1000000 := Nat.le_trans (nb_le (show 29 * t + 5 * i + j ≤ 145 by omega)) (by decide)
          have ui := UV.pr (hI.f.getD (k := i) (by omega))
          have ur := urs i j hi hj
          have ut := ui.add ur (k := nb (29 * t + 5 * i + (j + 1))) (by unfold nb; omega)
          have uj := UV.pr (hI.f.getD (k := j) (by omega))
          have hle2 : nb (29 * t + 5 * i + (j + 1)) ≤ 1000000 := Nat.le_trans (nb_le (show 29 * t + 5 * i + (j + 1) ≤ 145 by omega)) (by decide)
          generalize hT : addU (prU (N.getD i default)) (mulU (prU (ws.getD i default)) (gapU bs i (bs.getD j default).2)) = told at *
          refine st_seq (st_set (x := told) ((evd_call2 (EvD.pr (evd_ix (evl_own (l := N) rfl) (evd_var (x := i) rfl) (by omega))) (EvD.to (evd_ix (EvD.l (evd_ix (EvD.l (evd_var (x := riseM bs ws) rfl)) (evd_var (x := i) rfl) (by omega))) (evd_var (x := j) rfl) (by rw [rise_len2 hi]; exact hj)) (rise_at hi hj)) ⟨ui.sm (by omega), ur.sm (by decide)⟩).to hT) ?_)
          refine st_if (evb_test (evd_lt (evd_call2 (evd_var (x := told) rfl) (EvD.pr (evd_ix (evl_own (l := N) rfl) (evd_var (x := j) rfl) (by omega))) ⟨ut.sm (by omega), uj.sm (by omega)⟩) evd_int)) (fun h => ?_) (fun h => ?_)
          · exact st_put (k := j) rfl (evd_call2 (evd_fst (evd_var (x := told) rfl)) (evd_snd (evd_var (x := told) rfl)) ⟨ut.pos, ut.f2.mono (by omega)⟩) (evd_var (x := j) rfl) (by omega) ⟨_, _, _, rfl, hI.set (fit_divInt ut.f1 ut.f2 (Int.ne_of_gt ut.pos)) (nb_le (by omega))⟩
          · exact st_next ⟨_, _, _, rfl, hI.mono (nb_le (by omega))⟩
        · obtain ⟨N, s6, s9, rfl, hI⟩ := hI
          exact ⟨_, _, _, _, rfl, hI.mono (nb_le (by omega))⟩
      · obtain ⟨N, s5, s6, s9, rfl, hI⟩ := hI
        refine st_forL (fun k G' => ∃ N s5 s6 s9 s10, G' = [pureS bs, pureS ls, pureS ws, pureS bs.length, ownS N, s5, s6, pureS (riseM bs ws), pureS t, s9, s10, none] ∧ RL bs.length (nb (29 * t + 25 + k)) N) (evd_var (x := ls) rfl) ⟨_, _, _, _, _, rfl, hI.mono (nb_le (by omega))⟩ (fun k x G' hx hI => ⟨_, gd_tup3 gd_name gd_name gd_name, ?_⟩) fun G' hI => ?_
        · obtain ⟨N, s5, s6, s9, s10, rfl, hI⟩ := hI
          have hNl := hI.len
          have hk4 : k < ls.length := (List.getElem?_eq_some_iff.mp hx).1
          obtain ⟨ha, hb⟩ := hL x (List.mem_of_getElem? hx)
          have hle : nb (29 * t + 25 + k) ≤ 1000000 := Nat.le_trans (nb_le (show 29 * t + 25 + k ≤ 145 by omega)) (by decide)
          have hle2 : nb (29 * t + 25 + (k + 1)) ≤ 1000000 := Nat.le_trans (nb_le (show 29 * t + 25 + (k + 1) ≤ 145 by omega)) (by decide)
          have ui := UV.pr (hI.f.getD (k := x.a) (by omega))
          have ur := fit_neg1 (b := x.c)
          have ut := ui.add ur (k := nb (29 * t + 25 + (k + 1))) (by unfold nb; omega)
          have uj := UV.pr (hI.f.getD (k := x.b) (by omega))
          generalize hT : addU (prU (N.getD x.a default)) (-(if x.c then (1 : Int) else 0), (1 : Int)) = told at *
          refine st_seq (st_set (x := told) ((evd_call2 (EvD.pr (evd_ix (evl_own (l := N) rfl) (evd_var (x := x.a) rfl) (by omega))) (evd_tup2 (evd_neg (evd_intb (evd_var (x := x.c) rfl))) evd_int) ⟨ui.sm (by omega), ur.sm (by decide)⟩).to hT) ?_)
          refine st_if (evb_test (evd_lt (evd_call2 (evd_var (x := told) rfl) (EvD.pr (evd_ix (evl_own (l := N) rfl) (evd_var (x := x.b) rfl) (by omega))) ⟨ut.sm (by omega), uj.sm (by omega)⟩) evd_int)) (fun h => ?_) (fun h => ?_)
          · exact st_put (k := x.b) rfl (evd_call2 (evd_fst (evd_var (x := told) rfl)) (evd_snd (evd_var (x := told) rfl)) ⟨ut.pos, ut.f2.mono (by omega)⟩) (evd_var (x := x.b) rfl) (by omega) ⟨_, _, _, _, _, rfl, hI.set (fit_divInt ut.f1 ut.f2 (Int.ne_of_gt ut.pos)) (nb_le (by omega))⟩
          · exact st_next ⟨_, _, _, _, _, rfl, hI.mono (nb_le (by omega))⟩
        · obtain ⟨N, s5, s6, s9, s10, rfl, hI⟩ := hI
          exact ⟨_, _, _, _, _, _, rfl, hI.mono (nb_le (by omega))⟩
    · obtain ⟨N, s5, s6, s8, s9, s10, rfl, hI⟩ := hI
      have hle : nb (29 * bs.length) ≤ 1000000 := Nat.le_trans (nb_le (show 29 * bs.length ≤ 145 by omega)) (by decide)
      exact st_freeze 4 rfl (st_retP (EvD.p (R := fun x => x = N) (evd_var rfl) rfl) rfl fun x hx => by rw [hx]; exact hI.mono hle)
⟩
/-! ### worth -/
structure LWo (g : Nat) (bs : List Buy) (ns ws x : List Rat) : Prop where
  buys : BuysOk g bs
  l1 : ns.length = bs.length
  l2 : ws.length = bs.length
  f1 : FitL 300000 ns
  f2 : FitL 300000 ws
  hx : BasOk g x
abbrev sp__law_worth := spR (A := List Buy × List Rat × List Rat × List Rat) (fun a => [dyn a.1, dyn a.2.1, dyn a.2.2.1, dyn a.2.2.2]) (fun a => ∃ g, LWo g a.1 a.2.1 a.2.2.1 a.2.2.2) (fun _ => RetP (FitR 1000000))
theorem ok__law_worth {f : Addr} {fd : FuncData} (F : Fun K "_law_worth" "_law_worth" s__law_worth f fd) (B : Bi P mg base) (C_law_lowest : Cal P w K mg base 41 "_law_lowest" ["_law_p", "_law_q"] (sp__law_lowest K)) (C_law_gap : Cal P w K mg base 41 "_law_gap" ["_law_buys", "_law_i", "_law_basket"] (sp__law_gap K)) (C_law_add : Cal P w K mg base 40 "_law_add" ["_law_a", "_law_b"] (sp__law_add K)) (C_law_mul : Cal P w K mg base 40 "_law_mul" ["_law_a", "_law_b"] (sp__law_mul K)) (C_law_over : Cal P w K mg base 40 "_law_over" ["_law_a", "_law_b"] (sp__law_over K)) : FnOk P w K mg base CX0 42 f fd ["_law_buys", "_law_numbers_here", "_law_weights_here", "_law_basket"] (sp__law_worth K) :=
  fn_st F sc__law_worth (fun _ => rfl) fun cdv A' outer s H E hr => ⟨_,
(pss_cons (ps_set (i := 4) sc__law_worth.nd rfl (.inl rfl) (pe_tup (pa_cons pe_int (pa_cons pe_int pa_nil))))
(pss_cons (ps_for PassesOwn.never rfl (pi_range1 (by rfl) B.range (pa_cons (pe_callB call_len_seq (by rfl) B.len PySem.boot_len (pa_cons (pv 0) pa_nil)) pa_nil)) (pg_name (i := 5) sc__law_worth.nd rfl (.inl rfl))
(pss_cons (ps_set (i := 6) sc__law_worth.nd rfl (.inl rfl) (pe_cal C_law_add (hr.mono (by decide)) (by rfl) (pa_cons (pe_ix ix_list (pv 1) (pv 5) (fun _ _ => rfl)) (pa_cons (pe_cal C_law_mul (hr.mono (by decide)) (by rfl) (pa_cons (pe_ix ix_list (pv 2) (pv 5) (fun _ _ => rfl)) (pa_cons (pe_cal C_law_gap (hr.mono (by decide)) (by rfl) (pa_cons (pv 0) (pa_cons (pv 5) (pa_cons (pv 3) pa_nil)))) pa_nil))) pa_nil))))
(pss_one (ps_if (PW.pt (pw_or (pt_cmpR op_eq (pv 5) pe_int (nomark _)) (pw_or1 (pt_cmpR op_lt (pe_cal C_law_over (hr.mono (by decide)) (by rfl) (pa_cons (pv 6) (pa_cons (pv 4) pa_nil))) pe_int (nomark _)))))
(pss_one (ps_set (i := 4) sc__law_worth.nd rfl (.inl rfl) (pv 6)))
pss_nil))))
(pss_one (ps_ret (pe_cal C_law_lowest (hr.mono (by decide)) (by rfl) (pa_cons (pe_ix ix_tup (pv 4) pe_int (fun _ _ => rfl)) (pa_cons (pe_ix ix_tup (pv 4) pe_int (fun _ _ => rfl)) pa_nil))))))), 
fun ⟨bs, ns, ws, x⟩ hp => by
    show StD K [pureS bs, pureS ns, pureS ws, pureS x, none, none, none] _ _
    obtain ⟨g, hB, l1, l2, f1, f2, hx⟩ : ∃ g, LWo g bs ns ws x := hp
    have h8 := hB.len
    refine st_seq (st_set (x := ((0, 1) : Int × Int)) (evd_tup2 evd_int evd_int) ?_)
    refine st_seq (st_forR (fun i G' => ∃ b s5 s6, G' = [pureS bs, pureS ns, pureS ws, pureS x, pureS (b : Int × Int), s5, s6] ∧ 0 < b.2 ∧ Fit 700000 b.1 ∧ Fit 700000 b.2) (len_of (EvD.l (evd_var (x := bs) rfl))) (by omega) ⟨_, _, _, rfl, by decide, (fit_zero (show 0 < 700000 by decide)).1, (fit_zero (show 0 < 700000 by decide)).2⟩ (fun i G' hi hI => ?_) fun G' hI => ?_)
    · obtain ⟨b, s5, s6, rfl, b1, b2, b3⟩ := hI
      have gk : GapOk g bs i x := ⟨hB, hi, hx⟩
      have ug := gap_uv gk
      have uw := UV.pr (f2.getD (k := i) (by omega))
      have un := UV.pr (f1.getD (k := i) (by omega))
      have um := uw.mul ug (Nat.le_refl _)
      have ut := un.add um (show 300000 + (300000 + 1043) < 700000 by decide)
      refine st_seq (st_set (x := addU (prU (ns.getD i default)) (mulU (prU (ws.getD i default)) (gapU bs i x))) (evd_call2 (EvD.pr (evd_ix (EvD.l (evd_var (x := ns) rfl)) (evd_var (x := i) rfl) (by omega))) (evd_call2 (EvD.pr (evd_ix (EvD.l (evd_var (x := ws) rfl)) (evd_var (x := i) rfl) (by omega))) (evd_call3 (evd_var (x := bs) rfl) (evd_var (x := i) rfl) (evd_var (x := x) rfl) ⟨g, gk⟩) ⟨uw.sm (by decide), ug.sm (by decide)⟩) ⟨un.sm (by decide), um.sm (by decide)⟩) ?_)
      generalize addU (prU (ns.getD i default)) (mulU (prU (ws.getD i default)) (gapU bs i x)) = told at *
      refine st_if (evb_or (evb_test (evd_eqN (evd_var (x := i) rfl) (evd_nat (i := 0)))) fun z => (evb_test (evd_lt (evd_call2 (evd_var (x := told) rfl) (evd_var (x := b) rfl) ⟨ut.sm (by decide), b2.mono (by decide), b3.mono (by decide)⟩) evd_int))) (fun h => ?_) (fun h => ?_)
      · exact st_set (evd_var (x := told) rfl) ⟨_, _, _, rfl, ut.pos, ut.f1, ut.f2⟩
      · exact st_next ⟨_, _, _, rfl, b1, b2, b3⟩
    · obtain ⟨b, s5, s6, rfl, b1, b2, b3⟩ := hI
      exact st_retP (EvD.p (R := fun r => r = Rat.divInt b.1 b.2) (evd_call2 (evd_fst (evd_var (x := b) rfl)) (evd_snd (evd_var (x := b) rfl)) ⟨b1, b3.mono (by decide)⟩) rfl) rfl fun r hr => by
        rw [hr]
        exact fit_divInt (b2.mono (by decide)) (b3.mono (by decide)) (Int.ne_of_gt b1)
⟩
end BB

/-! new lists of which a property is told; index -/
namespace BB
open PySem PySem.Spec L2
def EvNP {α : Type} [Rep α] (K : KF) (G : GEnv) (t : TE) (R : List α → Prop) : Prop :=
  ∀ H0 Hs H σ E, EnvOk K H0 Hs H σ G E → ∀ Q : VK, (∀ p vs l Hs' H', Grow Hs H Hs' H' → H p = none → Hs' p = none → H' p = some (.lst vs) → R l → All2 (Rep.rep K Hs') vs l → Q (.ref p) H') → t σ H Q
def RetLP {β : Type} [Rep β] (R : List β → Prop) : RetK := fun K H0 Hs' H' v => ∃ p vs l, v = .ref p ∧ H0 p = none ∧ Hs' p = none ∧ H' p = some (.lst vs) ∧ All2 (Rep.rep K Hs') vs l ∧ R l
section
variable {α β γ : Type} [Rep α] [Rep β] [Rep γ] {K : KF} {G : GEnv} {ta tb te tl : TE} {tr : TA} {D : Post} {X : XK}
theorem evnp_call {A : Type} {args : A → List Dyn} {pre : A → Prop} {R : A → List β → Prop} {t : TA} (a : A) (h : EvA K G t (args a)) (hp : pre a) : EvNP K G (tCall (spR args pre (fun a => RetLP (R a)) K) [] X t) (R a) := fun H0 Hs H σ E e Q q =>
  h H0 Hs H σ E e _ fun vs Hs1 H1 g1 r1 => ⟨Hs1, a, g1.sub, by rw [List.append_nil]; exact r1, hp, fun v Hs2 H2 g2 ⟨p, ws, l, hv, z1, z2, z3, z4, z5⟩ => by
    subst hv
    exact q p ws l Hs2 H2 (g1.trans g2) (g1.h.free z1) z2 z3 z5 z4⟩
theorem evnp_cat {l : List α} {R : List α → Prop} (ha : EvL K G ta l) (hb : EvP K G tb R) (hl : ∀ m, R m → l.length + m.length < 100000) : EvNP K G (tOp rCat ta tb) (fun x => ∃ m, R m ∧ x = l ++ m) := fun H0 Hs H σ E e Q q =>
  ha H0 Hs H σ E e _ fun a vs Hs1 H1 g1 h1 r1 => hb H0 Hs1 H1 σ E (e.grow g1) _ fun v m Hs2 H2 g2 hR r2 => by
    obtain ⟨b, ws, rfl, h2, r2⟩ := r2
    exact ⟨a, b, vs, ws, rfl, rfl, g2.h _ _ h1, g2.sub _ _ h2, Nat.le_trans (by rw [r1.len, r2.len]; have := hl m hR; omega) (show 100000 ≤ sizeLine by decide), fun p hp =>
      q p _ _ Hs2 _ ((g1.trans g2).trans (Grow.newO g2.sub hp)) ((g1.trans g2).h.free hp) (g2.sub.free hp) upd_same ⟨m, hR, rfl⟩ ((r1.imp fun _ _ r => Rep.mono g2.s r).app r2)⟩
theorem st_ownP {R : List α → Prop} {i : Nat} (h : EvNP K G te R) (k : ∀ l, R l → D.nx (G.set i (ownS l))) : StD K G (tAsg te (gName i)) D := fun Hs0 H0 Hs H σ E e g0 De p =>
  h H0 Hs H σ E e _ fun q vs l Hs1 H1 g1 h1 h2 h3 hR h4 => p.nx _ _ Hs1 H1 (k l hR) (e.setO g1 i h1 h2 h3 h4) (g0.trans g1)
theorem st_retOP {l : List β} {R : List β → Prop} {i : Nat} (hi : G[i]? = some (ownS l)) (hD : D.rt = RetLP R) (hR : R l) : StD K G (tRet (tVar i)) D := fun Hs0 H0 Hs H σ E ev g0 De p => by
  obtain ⟨a, vs, ha, h1, z1, z2, r⟩ := ev.owned hi
  exact ⟨.ref a, ha, p.rt _ Hs H g0 (by rw [hD]; exact ⟨a, vs, l, rfl, z2, z1, h1, r, hR⟩)⟩
theorem evp_fst {R : α → Prop} {y : β} (ha : EvP K G ta R) (hb : EvD K G tb y) : EvP K G (tTup (tCons ta (tCons tb tNil))) (fun p : α × β => R p.1 ∧ p.2 = y) := fun H0 Hs H σ E e Q q =>
  ha H0 Hs H σ E e _ fun u x Hs1 H1 g1 hR r1 => hb H0 Hs1 H1 σ E (e.grow g1) _ fun w Hs2 H2 g2 r2 => ⟨line2 (by simp), fun p hp => q (.ref p) (x, y) _ _ ((g1.trans g2).trans (Grow.newS g2.sub hp)) ⟨hR, rfl⟩
    ⟨p, u, w, rfl, .inl (.inl upd_same), Rep.mono (g2.s.trans (same_new (g2.sub.free hp))) r1, Rep.mono (same_new (g2.sub.free hp)) r2⟩⟩
theorem nat_vals : ∀ {H : Hp} {vs : List V} {l : List Nat}, All2 (Rep.rep K H) vs l → vs = l.map fun (n : Nat) => V.int (n : Int)
  | _, [], [], _ => rfl
  | _, v :: vs, n :: l, h => by rw [show v = V.int (n : Int) from h.1, nat_vals h.2]; rfl
  | _, [], _ :: _, h => h.elim
  | _, _ :: _, [], h => h.elim
theorem evd_index {l : List Nat} {x j : Nat} (hl : EvL K G tl l) (hx : EvD K G te x) (hj : l[j]? = some x) (hm : ∀ m, m < j → l[m]? ≠ some x) : EvD K G (tBM K "list" (rIndex K) tl (tCons te tNil)) j := fun H0 Hs H σ E e Q q =>
  hl H0 Hs H σ E e _ fun a vs Hs1 H1 g1 h1 r1 => ⟨.inl ⟨rfl, vs, .inl (.inl h1)⟩, hx H0 Hs1 H1 σ E (e.grow g1) _ fun v Hs2 H2 g2 r2 => by
    cases (show v = V.int (x : Int) from r2)
    have hv := nat_vals r1
    subst hv
    refine ⟨a, _, .int (x : Int), j, .int (x : Int), rfl, rfl, .inl (.inl (g2.h _ _ h1)), rfl, ?_, ?_, ?_, fun m z' hmj hz => ?_, q _ Hs2 H2 (g1.trans g2) rfl⟩
    · rw [List.all_eq_true]
      intro y hy
      obtain ⟨n, _, rfl⟩ := List.mem_map.mp hy
      rfl
    · rw [List.getElem?_map, hj]
      rfl
    · simp [eqV]
    · rw [List.getElem?_map] at hz
      cases z : l[m]? with
      | none => rw [z] at hz; cases hz
      | some y =>
        rw [z] at hz
        cases hz
        have : y ≠ x := fun e => hm m hmj (by rw [z, e])
        simp [eqV]
        omega⟩
theorem first_at {l : List Nat} {x : Nat} (h : x ∈ l) : ∃ j, l[j]? = some x ∧ (∀ m, m < j → l[m]? ≠ some x) ∧ j < l.length := by
  induction l with
  | nil => cases h
  | cons a l ih =>
    by_cases e : a = x
    · exact ⟨0, by simp [e], fun m hm => absurd hm (Nat.not_lt_zero _), Nat.zero_lt_succ _⟩
    · obtain ⟨j, h1, h2, h3⟩ := ih (by rcases List.mem_cons.mp h with z | z; exact absurd z.symm e; exact z)
      refine ⟨j + 1, by simpa using h1, fun m hm => ?_, by simp only [List.length_cons]; omega⟩
      cases m with
      | zero => simpa using e
      | succ m => simpa using h2 m (by omega)
/-- a truth value or None, as a truth -/
theorem evb_truO {o : Option Bool} (h : EvD K G ta o) : EvB K G (tTruV K ta) (decide (o = some true)) := fun H0 Hs H σ E e Q q => h H0 Hs H σ E e _ fun v Hs' H' g r => by
  have hv := ob_rep r
  subst hv
  refine ⟨decide (o = some true), ?_, q Hs' H' g⟩
  cases o with
  | none => exact rfl
  | some b => cases b <;> exact rfl
end
end BB

/-! the law's tastes -/
namespace BB
open PySem PySem.Spec L2
variable {P : Program} {w : World} {K : KF} {mg : Str → Option Value} {base : Heap} {aZ aO : Addr}
abbrev s__law_without : Stmt := topS 64
abbrev N__law_without : List Str := ["_law_goods", "_law_buys", "_law_links", "_law_k", "_law_weight", "_law_j", "_law_others", "_law_between", "_law_i", "_law_strict", "_law_some", "_law_found", "_law_number"]
theorem sc__law_without : FnScope N__law_without ["_law_goods", "_law_buys", "_law_links", "_law_k", "_law_weight"] (defScope s__law_without) := ⟨rfl, rfl, rfl, by decide +kernel, rfl, by decide +kernel, by decide +kernel⟩

abbrev s__law_tastes : Stmt := topS 65
abbrev N__law_tastes : List Str := ["_law_script", "_law_goods", "_law_buys", "_law_links", "_law_tastes_here", "_law_place", "_law_weights_here", "_law_bare", "_law_row_here", "_law_weight"]
theorem sc__law_tastes : FnScope N__law_tastes ["_law_script", "_law_goods", "_law_buys", "_law_links"] (defScope s__law_tastes) := ⟨rfl, rfl, rfl, by decide +kernel, rfl, by decide +kernel, by decide +kernel⟩

def dropM (bs : List Buy) (ls : List Link) (ns : List Rat) (i j : Nat) : Bool := (stepM bs ls i j).isSome && (decide (ns.getD i default < ns.getD j default) || (decide (stepM bs ls i j = some true) && decide (ns.getD i default = ns.getD j default)))
def fallsM (bs : List Buy) (ls : List Link) (ns : List Rat) : Bool := allN bs.length fun i => allN bs.length fun j => !dropM bs ls ns i j
structure LFa (bs : List Buy) (ns : List Rat) : Prop where
  l8 : bs.length ≤ 8
  n : RL bs.length 1000000 ns
abbrev sp__law_falls_along := spR (A := List Buy × List Link × List Rat) (fun a => [dyn (tableM a.1 a.2.1), dyn a.2.2]) (fun a => LFa a.1 a.2.2) (fun a => RetV (fallsM a.1 a.2.1 a.2.2))
theorem ok__law_falls_along {f : Addr} {fd : FuncData} (F : Fun K "_law_falls_along" "_law_falls_along" s__law_falls_along f fd) (B : Bi P mg base) (C_law_over : Cal P w K mg base 40 "_law_over" ["_law_a", "_law_b"] (sp__law_over K)) : FnOk P w K mg base CX0 41 f fd ["_law_steps_here", "_law_numbers_here"] (sp__law_falls_along K) :=
  fn_st F sc__law_falls_along (fun _ => rfl) fun cdv A' outer s H E hr => ⟨_,
(pss_cons (ps_for PassesOwn.never rfl (pi_range1 (by rfl) B.range (pa_cons (pe_callB call_len_seq (by rfl) B.len PySem.boot_len (pa_cons (pv 0) pa_nil)) pa_nil)) (pg_name (i := 2) sc__law_falls_along.nd rfl (.inl rfl))
(pss_one (ps_for PassesOwn.never rfl (pi_range1 (by rfl) B.range (pa_cons (pe_callB call_len_seq (by rfl) B.len PySem.boot_len (pa_cons (pv 0) pa_nil)) pa_nil)) (pg_name (i := 3) sc__law_falls_along.nd rfl (.inl rfl))
(pss_cons (ps_set (i := 4) sc__law_falls_along.nd rfl (.inl rfl) (pe_cal C_law_over (hr.mono (by decide)) (by rfl) (pa_cons (pe_ix ix_list (pv 1) (pv 2) (fun _ _ => rfl)) (pa_cons (pe_ix ix_list (pv 1) (pv 3) (fun _ _ => rfl)) pa_nil))))
(pss_one (ps_if (PW.pt (pw_and (pt_cmpR op_notN (pe_ix ix_list (pe_ix ix_list (pv 0) (pv 2) (fun _ _ => rfl)) (pv 3) (fun _ _ => rfl)) pe_non (nomark _)) (pw_and1 (PW.pt (pw_or (pt_cmpR op_lt (pv 4) pe_int (nomark _)) (pw_or1 (PW.pt (pw_and (pt_truth (pe_ix ix_list (pe_ix ix_list (pv 0) (pv 2) (fun _ _ => rfl)) (pv 3) (fun _ _ => rfl)) (fun _ => rfl)) (pw_and1 (pt_cmpR op_eq (pv 4) pe_int (nomark _)))))))))))
(pss_one (ps_ret pe_bl))
pss_nil))))))
(pss_one (ps_ret pe_bl))), 
fun ⟨bs, ls, ns⟩ hp => by
    show StD K [pureS (tableM bs ls), pureS ns, none, none, none] _ _
    obtain ⟨h8, hn⟩ : LFa bs ns := hp
    have hnl := hn.len
    have htl := table_len bs ls
    have hsq := table_sq bs ls
    refine st_seq (st_forR (n := bs.length) (fun i G' => (∃ s2 s3 s4, G' = [pureS (tableM bs ls), pureS ns, s2, s3, s4]) ∧ allN i (fun i => allN bs.length fun j => !dropM bs ls ns i j) = true) ((len_of (EvD.l (evd_var (x := tableM bs ls) rfl))).to htl) (by omega) ⟨⟨_, _, _, rfl⟩, rfl⟩ (fun i G' hi hI => ?_) fun G' hI => ?_)
    · obtain ⟨⟨s2, s3, s4, rfl⟩, hI⟩ := hI
      refine st_forR (n := bs.length) (fun j G' => (∃ s3 s4, G' = [pureS (tableM bs ls), pureS ns, pureS i, s3, s4]) ∧ allN j (fun j => !dropM bs ls ns i j) = true) ((len_of (EvD.l (evd_var (x := tableM bs ls) rfl))).to htl) (by omega) ⟨⟨_, _, rfl⟩, rfl⟩ (fun j G' hj hJ => ?_) fun G' hJ => ?_
      · obtain ⟨⟨s3, s4, rfl⟩, hJ⟩ := hJ
        have ui := UV.pr (hn.f.getD (k := i) (by omega))
        have uj := UV.pr (hn.f.getD (k := j) (by omega))
        have ho := ui.over uj
        have e0 : ((tableM bs ls).getD i default).getD j default = stepM bs ls i j := tg_table hi hj
        have ij : ∀ {G : GEnv}, G[0]? = some (pureS (tableM bs ls)) → G[2]? = some (pureS i) → G[3]? = some (pureS j) → EvD K G (tOp (rIxL K) (tOp (rIxL K) (tVar 0) (tVar 2)) (tVar 3)) (stepM bs ls i j) := fun h0 h2 h3 =>
          (evd_ix (EvD.l (evd_ix (EvD.l (evd_var (x := tableM bs ls) h0)) (evd_var (x := i) h2) (by rw [htl]; exact hi))) (evd_var (x := j) h3) (by rw [hsq.at (by rw [htl]; exact hi), htl]; exact hj)).to e0
        have ed : dropM bs ls ns i j = ((stepM bs ls i j).isSome && (decide (overU (prU (ns.getD i default)) (prU (ns.getD j default)) < 0) || (decide (stepM bs ls i j = some true) && decide (overU (prU (ns.getD i default)) (prU (ns.getD j default)) = 0)))) := by
          unfold dropM
          rw [decide_eq_decide.mpr ho.1, decide_eq_decide.mpr ho.2]
        refine st_seq (st_set (x := overU (prU (ns.getD i default)) (prU (ns.getD j default))) (evd_call2 (EvD.pr (evd_ix (EvD.l (evd_var (x := ns) rfl)) (evd_var (x := i) rfl) (by omega))) (EvD.pr (evd_ix (EvD.l (evd_var (x := ns) rfl)) (evd_var (x := j) rfl) (by omega))) ⟨ui.sm (by decide), uj.sm (by decide)⟩) ?_)
        refine st_if (b := dropM bs ls ns i j) ((evb_and (evb_test (evd_notN (ij rfl rfl rfl))) fun z => (evb_or (evb_test (evd_lt (evd_var (x := overU (prU (ns.getD i default)) (prU (ns.getD j default))) rfl) evd_int)) fun z => (evb_and (evb_truO (ij rfl rfl rfl)) fun z => (evb_test (evd_eqI (evd_var (x := overU (prU (ns.getD i default)) (prU (ns.getD j default))) rfl) evd_int))))).to ed.symm) (fun h => ?_) (fun h => ?_)
        · refine st_ret evd_bl rfl ?_
          show false = fallsM bs ls ns
          unfold fallsM
          rw [allN_false hi (by
            show (allN bs.length fun j => !dropM bs ls ns i j) = false
            exact allN_false (k := j) hj (by rw [h]; rfl))]
        · refine st_next ⟨⟨_, _, rfl⟩, ?_⟩
          show (allN j _ && _) = true
          rw [hJ]
          simp only
          rw [h]
          rfl
      · obtain ⟨⟨s3, s4, rfl⟩, hJ⟩ := hJ
        refine ⟨⟨_, _, _, rfl⟩, ?_⟩
        show (allN i _ && _) = true
        rw [hI]
        simp only
        rw [hJ]
        rfl
    · obtain ⟨⟨s2, s3, s4, rfl⟩, hI⟩ := hI
      exact st_ret evd_bl rfl hI.symm
⟩
/-! ### without -/
/-- a taste as the law draws it -/
structure TL (n : Nat) (t : List Rat × List Rat) : Prop where
  a : RL n 1000000 t.1
  b : RL n 1000000 t.2
structure LWi (g : Nat) (bs : List Buy) (ls : List Link) (k : Nat) (wt : Rat) : Prop where
  g4 : g ≤ 4
  l5 : bs.length ≤ 5
  b : ∀ b ∈ bs, BuyP g b
  links : LinksOk bs.length ls
  ll : ls.length ≤ 4
  hk : k < bs.length
  fw : FitR 1000 wt
theorem others_len {k : Nat} : ∀ {n : Nat}, k < n → ((List.range n).filter fun j => !decide (j = k)).length + 1 = n
  | 0, h => absurd h (Nat.not_lt_zero _)
  | n + 1, h => by
    rw [List.range_succ, List.filter_append, List.length_append]
    by_cases e : k = n
    · subst e
      have h1 : ((List.range k).filter fun j => !decide (j = k)) = List.range k := List.filter_eq_self.mpr fun a ha => by
        have := List.mem_range.mp ha
        have : a ≠ k := by omega
        simp [this]
      rw [h1]
      simp
    · have ih := others_len (n := n) (k := k) (by omega)
      have e' : n ≠ k := fun z => e z.symm
      have h2 : ([n].filter fun j => !decide (j = k)) = [n] := by simp [e']
      rw [h2, List.length_singleton]
      omega
theorem cut_rl {n k m : Nat} {l : List Rat} {x : Rat} (h : RL n m l) (hk : k ≤ n) (hx : FitR m x) : RL (n + 1) m (l.take k ++ [x] ++ l.drop k) :=
  ⟨by simp only [List.length_append, List.length_take, List.length_drop, List.length_singleton, h.len]; omega, fun y hy => by
    rcases List.mem_append.mp hy with z | z
    · rcases List.mem_append.mp z with z | z
      · exact h.f y (List.mem_of_mem_take z)
      · rw [List.mem_singleton.mp z]; exact hx
    · exact h.f y (List.mem_of_mem_drop z)⟩
abbrev sp__law_without := spR (A := Nat × List Buy × List Link × Nat × Rat) (fun a => [dyn a.1, dyn a.2.1, dyn a.2.2.1, dyn a.2.2.2.1, dyn a.2.2.2.2]) (fun a => LWi a.1 a.2.1 a.2.2.1 a.2.2.2.1 a.2.2.2.2) (fun a => RetP fun ts : List (List Rat × List Rat) => ts.length ≤ 1 ∧ ∀ t ∈ ts, TL a.2.1.length t)
theorem ok__law_without {f : Addr} {fd : FuncData} (F : Fun K "_law_without" "_law_without" s__law_without f fd) (B : Bi P mg base) (Ccheck : Cal P w K mg base 47 "check" ["data"] (sp_check K)) (C_law_made : Cal P w K mg base 51 "_law_made" ["_law_goods", "_law_buys", "_law_links"] (sp__law_made K)) (C_law_kind : Cal P w K mg base 45 "_law_kind" ["_law_buys", "_law_links", "_law_found"] (sp__law_kind K)) (C_law_worth : Cal P w K mg base 42 "_law_worth" ["_law_buys", "_law_numbers_here", "_law_weights_here", "_law_basket"] (sp__law_worth K)) : FnOk P w K mg base CX0 52 f fd ["_law_goods", "_law_buys", "_law_links", "_law_k", "_law_weight"] (sp__law_without K) :=
  fn_st F sc__law_without (fun _ => rfl) fun cdv A' outer s H E hr => ⟨_,
(pss_cons (ps_setLc (i := 6) (own := [("_law_j", 5)]) (g := gName 5) rfl sc__law_without.nd rfl rfl (sw_true rfl rfl rfl (by decide +kernel)) (pi_range1 (by rfl) B.range (pa_cons (pe_callB call_len_seq (by rfl) B.len PySem.boot_len (pa_cons (pv 1) pa_nil)) pa_nil)) (blkOk_by (N := N__law_without) (sc := defScope s__law_without) (by decide +kernel)) (fun _ _ _ _ _ => (pg_name (i := 5) sc__law_without.nd rfl (.inl rfl))) (fun _ _ _ _ _ => (pts_one (pt_cmpR op_ne (pv 5) (pv 3) (nomark _)))) (fun _ _ _ _ _ => (pv 5)))
(pss_cons (ps_set (i := 7) sc__law_without.nd rfl (.inl rfl) (pe_lst pa_nil))
(pss_cons (ps_for PassesOwn.never rfl (pi_list (pv 2)) (pg_tup rfl (pgs_cons (pg_name (i := 8) sc__law_without.nd rfl (.inl rfl)) (pgs_cons (pg_name (i := 5) sc__law_without.nd rfl (.inl rfl)) (pgs_cons (pg_name (i := 9) sc__law_without.nd rfl (.inl rfl)) pgs_nil))))
(pss_one (ps_if (PW.pt (pw_and (pt_cmpR op_ne (pv 8) (pv 3) (nomark _)) (pw_and1 (pt_cmpR op_ne (pv 5) (pv 3) (nomark _)))))
(pss_one (ps_expr (pe_bm PySem.F.plainAttrs_list PySem.F.slot_list_append PySem.F.type_list_append mt_append (pv 7) (pa_cons (pe_tup (pa_cons (pe_bm PySem.F.plainAttrs_list PySem.F.slot_list_index PySem.F.type_list_index mt_index (pv 6) (pa_cons (pv 8) pa_nil)) (pa_cons (pe_bm PySem.F.plainAttrs_list PySem.F.slot_list_index PySem.F.type_list_index mt_index (pv 6) (pa_cons (pv 5) pa_nil)) (pa_cons (pv 9) pa_nil)))) pa_nil))))
pss_nil)))
(pss_cons (ps_setLc (i := 10) (own := [("_law_j", 5)]) (g := gName 5) (tt := tYes) rfl sc__law_without.nd rfl rfl (sw_true rfl rfl rfl (by decide +kernel)) (pi_list (pv 6)) (blkOk_by (N := N__law_without) (sc := defScope s__law_without) (by decide +kernel)) (fun _ _ _ _ _ => (pg_name (i := 5) sc__law_without.nd rfl (.inl rfl))) (fun _ _ _ _ _ => pts_nil) (fun _ _ _ _ _ => (pe_ix ix_list (pv 1) (pv 5) (fun _ _ => rfl))))
(pss_cons (ps_set (i := 11) sc__law_without.nd rfl (.inl rfl) (pe_cal Ccheck (hr.mono (by decide)) (by rfl) (pa_cons (pe_cal C_law_made (hr.mono (by decide)) (by rfl) (pa_cons (pv 0) (pa_cons (pv 10) (pa_cons (pv 7) pa_nil)))) pa_nil)))
(pss_cons (ps_if (pt_cmpR op_ne (pe_cal C_law_kind (hr.mono (by decide)) (by rfl) (pa_cons (pv 10) (pa_cons (pv 7) (pa_cons (pv 11) pa_nil)))) pe_str (nomark _))
(pss_one (ps_ret (pe_lst pa_nil)))
pss_nil)
(pss_cons (ps_set (i := 12) sc__law_without.nd rfl (.inl rfl) (pe_cal C_law_worth (hr.mono (by decide)) (by rfl) (pa_cons (pv 10) (pa_cons (pe_ix ix_tup (pe_ix ix_tup (pv 11) pe_int (fun _ _ => rfl)) pe_int (fun _ _ => rfl)) (pa_cons (pe_ix ix_tup (pe_ix ix_tup (pv 11) pe_int (fun _ _ => rfl)) pe_int (fun _ _ => rfl)) (pa_cons (pe_ix ix_tup (pe_ix ix_list (pv 1) (pv 3) (fun _ _ => rfl)) pe_int (fun _ _ => rfl)) pa_nil))))))
(pss_one (ps_ret (pe_lst (pa_cons (pe_tup (pa_cons (pe_op op_cat (pe_op op_cat (pe_slice sl_list (pe_ix ix_tup (pe_ix ix_tup (pv 11) pe_int (fun _ _ => rfl)) pe_int (fun _ _ => rfl)) po_none (po_some (pv 3))) (pe_lst (pa_cons (pv 12) pa_nil))) (pe_slice sl_list (pe_ix ix_tup (pe_ix ix_tup (pv 11) pe_int (fun _ _ => rfl)) pe_int (fun _ _ => rfl)) (po_some (pv 3)) po_none)) (pa_cons (pe_op op_cat (pe_op op_cat (pe_slice sl_list (pe_ix ix_tup (pe_ix ix_tup (pv 11) pe_int (fun _ _ => rfl)) pe_int (fun _ _ => rfl)) po_none (po_some (pv 3))) (pe_lst (pa_cons (pv 4) pa_nil))) (pe_slice sl_list (pe_ix ix_tup (pe_ix ix_tup (pv 11) pe_int (fun _ _ => rfl)) pe_int (fun _ _ => rfl)) (po_some (pv 3)) po_none)) pa_nil))) pa_nil))))))))))), 
fun ⟨g, bs, ls, k, wt⟩ hp => by
    show StD K [pureS g, pureS bs, pureS ls, pureS k, pureS wt, none, none, none, none, none, none, none, none] _ _
    obtain ⟨g4, l5, hb, hL, ll, hk, fw⟩ : LWi g bs ls k wt := hp
    refine st_seq (st_set (EvN.d (evn_lcR (fun j => !decide (j = k)) (fun j => j) (len_of (EvD.l (evd_var (x := bs) rfl))) (by omega) (by decide) (fun j hj => (evb_test (evd_neN (evd_var (x := j) rfl) (evd_var (x := k) rfl)))) (fun j hj hc => (evd_var (x := j) rfl)))) ?_)
    have hol := others_len hk
    have hom : ∀ j, j ∈ (((List.range bs.length).filter fun j => !decide (j = k)).map fun j => j) ↔ j < bs.length ∧ j ≠ k := fun j => by
      rw [List.map_id']
      simp [List.mem_filter, List.mem_range]
    have hol : (((List.range bs.length).filter fun j => !decide (j = k)).map fun j => j).length + 1 = bs.length := by rw [List.length_map]; exact hol
    show StD K [pureS g, pureS bs, pureS ls, pureS k, pureS wt, none, pureS (((List.range bs.length).filter fun j => !decide (j = k)).map fun j => j), none, none, none, none, none, none] _ _
    generalize (((List.range bs.length).filter fun j => !decide (j = k)).map fun j => j) = oth at *
    refine st_seq (st_own (evn_nil (α := Link)) ?_)
    refine st_seq (st_forL (fun i G' => ∃ be s5 s8 s9, G' = [pureS g, pureS bs, pureS ls, pureS k, pureS wt, s5, pureS oth, ownS be, s8, s9, none, none, none] ∧ LinksOk oth.length be ∧ be.length ≤ i) (evd_var (x := ls) rfl) ⟨_, _, _, _, rfl, (fun _ h => nomatch h), Nat.le_refl _⟩ (fun i x G' hx hI => ⟨_, gd_tup3 gd_name gd_name gd_name, ?_⟩) fun G' hI => ?_)
    · obtain ⟨be, s5, s8, s9, rfl, h1, h2⟩ := hI
      have hi4 := (List.getElem?_eq_some_iff.mp hx).1
      obtain ⟨ha, hb'⟩ := hL x (List.mem_of_getElem? hx)
      refine st_if (evb_and (evb_test (evd_neN (evd_var (x := x.a) rfl) (evd_var (x := k) rfl))) fun z => (evb_test (evd_neN (evd_var (x := x.b) rfl) (evd_var (x := k) rfl)))) (fun h => ?_) (fun h => st_next ⟨_, _, _, _, rfl, h1, by omega⟩)
      have h : x.a ≠ k ∧ x.b ≠ k := by simpa using h
      obtain ⟨ja, p1, p2, p3⟩ := first_at ((hom x.a).mpr ⟨ha, h.1⟩)
      obtain ⟨jb, q1, q2, q3⟩ := first_at ((hom x.b).mpr ⟨hb', h.2⟩)
      exact st_app rfl (evd_tup3 (evd_index (EvD.l (evd_var (x := oth) rfl)) (evd_var (x := x.a) rfl) p1 p2) (evd_index (EvD.l (evd_var (x := oth) rfl)) (evd_var (x := x.b) rfl) q1 q2) (evd_var (x := x.c) rfl)) (by omega) ⟨_, _, _, _, rfl, links_add h1 p3 q3, by rw [List.length_append]; simp only [List.length_singleton]; omega⟩
    · obtain ⟨be, s5, s8, s9, rfl, h1, h2⟩ := hI
      refine st_seq (st_set (x := oth.map fun j => bs.getD j default) (EvN.d (evn_lcL0 (fun j => bs.getD j default) (EvD.l (evd_var (x := oth) rfl)) (by omega) (by decide) (fun i j hj => (evd_ix (EvD.l (evd_var (x := bs) rfl)) (evd_var (x := j) rfl) ((hom j).mp (List.mem_of_getElem? hj)).1)))) ?_)
      have hsl : (oth.map fun j => bs.getD j default).length = oth.length := List.length_map _
      have hsb : ∀ b ∈ (oth.map fun j => bs.getD j default), BuyP g b := fun b hb2 => by
        obtain ⟨j, hj, rfl⟩ := List.mem_map.mp hb2
        exact hb _ (mem_getD ((hom j).mp hj).1)
      generalize (oth.map fun j => bs.getD j default) = sm at *
      have hmk : MakeOk (DataM.mk g sm be) := ⟨⟨buys_of g4 (show sm.length ≤ 5 by omega) hsb, by show LinksOk sm.length be; rw [hsl]; exact h1⟩, by show sm.length ≤ 5; omega⟩
      refine st_freeze 7 rfl ?_
      refine st_seq (st_setP (R := Chk (DataM.mk g sm be)) (evp_call (DataM.mk g sm be) (eva_cons (evd_call3 (evd_var (x := g) rfl) (evd_var (x := sm) rfl) (evd_var (x := be) rfl) ⟨by omega, by omega⟩) eva_nil) hmk) fun x hx => ?_)
      refine st_seq (st_if (evb_test (evd_neS (evd_call (DataM.mk g sm be, x) (eva_cons (evd_var (x := sm) rfl) (eva_cons (evd_var (x := be) rfl) (eva_cons (evd_var (x := x) rfl) eva_nil))) ⟨hmk, hx⟩) evd_str)) (fun h => ?_) (fun h => st_next ?_))
      · exact st_retP (EvD.p (R := fun x => x = []) (EvN.d (evn_nil (α := List Rat × List Rat))) rfl) rfl fun x hx => by
          rw [hx]
          exact ⟨by decide, fun _ h => nomatch h⟩
      · cases x with
        | ring c =>
          exact absurd h (by show ¬ (!decide (("ring" : Str) = "taste")) = false; decide)
        | taste t =>
          obtain ⟨_, ht⟩ : NoRing sm be ∧ Told (DataM.mk g sm be) t := hx
          have t1 : t.1.length = sm.length := ht.l1
          have t2 : t.2.length = sm.length := ht.l2
          have hB := buys_of g4 l5 hb
          show StD K [pureS g, pureS bs, pureS ls, pureS k, pureS wt, s5, pureS oth, pureS be, s8, s9, pureS sm, pureS (("taste" : Str), t), none] _ _
          have tv : ∀ {G : GEnv}, G[11]? = some (pureS (("taste" : Str), t)) → EvD K G (tOp (rIxT K) (tVar 11) (tC (.int 1))) t := fun hG => EvD.to (x := (("taste" : Str), t).2) (evd_snd (evd_var (x := (("taste" : Str), t)) hG)) rfl
          have tv1 : ∀ {G : GEnv}, G[11]? = some (pureS (("taste" : Str), t)) → EvD K G (tOp (rIxT K) (tOp (rIxT K) (tVar 11) (tC (.int 1))) (tC (.int 0))) t.1 := fun hG => evd_fst (tv hG)
          have tv2 : ∀ {G : GEnv}, G[11]? = some (pureS (("taste" : Str), t)) → EvD K G (tOp (rIxT K) (tOp (rIxT K) (tVar 11) (tC (.int 1))) (tC (.int 1))) t.2 := fun hG => evd_snd (tv hG)
          refine st_seq (st_setP (R := FitR 1000000) (evp_call (sm, t.1, t.2, (bs.getD k default).2) (eva_cons (evd_var (x := sm) rfl) (eva_cons (tv1 rfl) (eva_cons (tv2 rfl) (eva_cons (EvD.to (x := (bs.getD k default).2) (evd_snd (evd_ix (EvD.l (evd_var (x := bs) rfl)) (evd_var (x := k) rfl) hk)) rfl) eva_nil)))) ⟨g, buys_of g4 (show sm.length ≤ 5 by omega) hsb, t1, t2, ht.f1, ht.f2, hB.bas hk⟩) fun num hnum => ?_)
          refine st_retP (EvD.p (R := fun x => x = [(t.1.take k ++ [num] ++ t.1.drop k, t.2.take k ++ [wt] ++ t.2.drop k)]) (EvN.d (evn_lst (evi_cons (evd_tup2 (EvN.d (evn_cat (EvN.l (evn_cat (EvN.l (evn_take (EvD.l (tv1 rfl)) (evd_var (x := k) rfl))) (EvN.l (evn_lst (evi_cons (evd_var (x := num) rfl) evi_nil) (by simp))) ?_)) (EvN.l (evn_drop (EvD.l (tv1 rfl)) (evd_var (x := k) rfl))) ?_)) (EvN.d (evn_cat (EvN.l (evn_cat (EvN.l (evn_take (EvD.l (tv2 rfl)) (evd_var (x := k) rfl))) (EvN.l (evn_lst (evi_cons (evd_var (x := wt) rfl) evi_nil) (by simp))) ?_)) (EvN.l (evn_drop (EvD.l (tv2 rfl)) (evd_var (x := k) rfl))) ?_))) evi_nil) (by simp))) rfl) rfl fun x hx => ?_
          · simp only [List.length_take, List.length_singleton]; omega
          · simp only [List.length_append, List.length_take, List.length_drop, List.length_singleton]; omega
          · simp only [List.length_take, List.length_singleton]; omega
          · simp only [List.length_append, List.length_take, List.length_drop, List.length_singleton]; omega
          · rw [hx]
            refine ⟨by simp, fun y hy => ?_⟩
            rw [List.mem_singleton.mp hy]
            have r1 : RL sm.length 1000000 t.1 := ⟨t1, fun y hy => (ht.f1 y hy).mono (by decide)⟩
            have r2 : RL sm.length 1000000 t.2 := ⟨t2, fun y hy => (ht.f2 y hy).mono (by decide)⟩
            have e : bs.length = sm.length + 1 := by omega
            refine ⟨?_, ?_⟩
            · show RL bs.length 1000000 (t.1.take k ++ [num] ++ t.1.drop k)
              rw [e]
              exact cut_rl r1 (by omega) hnum
            · show RL bs.length 1000000 (t.2.take k ++ [wt] ++ t.2.drop k)
              rw [e]
              exact cut_rl r2 (by omega) (fw.mono (by decide))
⟩
end BB

/-! all the law's tastes -/
namespace BB
open PySem PySem.Spec L2
variable {P : Program} {w : World} {K : KF} {mg : Str → Option Value} {base : Heap} {aZ aO : Addr}
structure LTa (sc : Scr) (g : Nat) (bs : List Buy) (ls : List Link) : Prop where
  s : SmS sc
  d : LD (T3.mk g bs ls)
abbrev TLs (n m : Nat) (ts : List (List Rat × List Rat)) : Prop := ts.length ≤ m ∧ ∀ t ∈ ts, TL n t
theorem TLs.add {n m : Nat} {ts : List (List Rat × List Rat)} {t : List Rat × List Rat} (h : TLs n m ts) (ht : TL n t) : TLs n (m + 1) (ts ++ [t]) :=
  ⟨by rw [List.length_append]; have := h.1; simp only [List.length_singleton]; omega, fun x hx => by
    rcases List.mem_append.mp hx with z | z
    · exact h.2 x z
    · rw [List.mem_singleton.mp z]; exact ht⟩
theorem Told.tl {d : DataM} {t : List Rat × List Rat} (h : Told d t) : TL d.buys.length t := ⟨⟨h.l1, fun x hx => (h.f1 x hx).mono (by decide)⟩, ⟨h.l2, fun x hx => (h.f2 x hx).mono (by decide)⟩⟩
abbrev sp__law_tastes := spR (A := Scr × Nat × List Buy × List Link) (fun a => [dyn a.1, dyn a.2.1, dyn a.2.2.1, dyn a.2.2.2]) (fun a => LTa a.1 a.2.1 a.2.2.1 a.2.2.2) (fun a => RetLP (TLs a.2.2.1.length 4))
theorem ok__law_tastes {f : Addr} {fd : FuncData} (F : Fun K "_law_tastes" "_law_tastes" s__law_tastes f fd) (B : Bi P mg base) (Ccheck : Cal P w K mg base 47 "check" ["data"] (sp_check K)) (C_law_row : Cal P w K mg base 40 "_law_row" ["_law_script", "_law_place", "_law_many"] (sp__law_row K)) (C_law_lowest : Cal P w K mg base 41 "_law_lowest" ["_law_p", "_law_q"] (sp__law_lowest K)) (C_law_made : Cal P w K mg base 51 "_law_made" ["_law_goods", "_law_buys", "_law_links"] (sp__law_made K)) (C_law_kind : Cal P w K mg base 45 "_law_kind" ["_law_buys", "_law_links", "_law_found"] (sp__law_kind K)) (C_law_weights : Cal P w K mg base 42 "_law_weights" ["_law_row_here", "_law_buys"] (sp__law_weights K)) (C_law_numbers : Cal P w K mg base 42 "_law_numbers" ["_law_buys", "_law_links", "_law_weights_here"] (sp__law_numbers K)) (C_law_without : Cal P w K mg base 52 "_law_without" ["_law_goods", "_law_buys", "_law_links", "_law_k", "_law_weight"] (sp__law_without K)) : FnOk P w K mg base CX0 53 f fd ["_law_script", "_law_goods", "_law_buys", "_law_links"] (sp__law_tastes K) :=
  fn_st F sc__law_tastes (fun _ => rfl) fun cdv A' outer s H E hr => ⟨_,
(pss_cons (ps_set (i := 4) sc__law_tastes.nd rfl (.inl rfl) (pe_lst pa_nil))
(pss_cons (ps_for PassesOwn.never rfl (pi_tup (pe_tup (pa_cons pe_int (pa_cons pe_int pa_nil)))) (pg_name (i := 5) sc__law_tastes.nd rfl (.inl rfl))
(pss_cons (ps_set (i := 6) sc__law_tastes.nd rfl (.inl rfl) (pe_cal C_law_weights (hr.mono (by decide)) (by rfl) (pa_cons (pe_cal C_law_row (hr.mono (by decide)) (by rfl) (pa_cons (pv 0) (pa_cons (pv 5) (pa_cons pe_int pa_nil)))) (pa_cons (pv 2) pa_nil))))
(pss_one (ps_expr (pe_bm PySem.F.plainAttrs_list PySem.F.slot_list_append PySem.F.type_list_append mt_append (pv 4) (pa_cons (pe_tup (pa_cons (pe_cal C_law_numbers (hr.mono (by decide)) (by rfl) (pa_cons (pv 2) (pa_cons (pv 3) (pa_cons (pv 6) pa_nil)))) (pa_cons (pv 6) pa_nil))) pa_nil))))))
(pss_cons (ps_set (i := 7) sc__law_tastes.nd rfl (.inl rfl) (pe_cal Ccheck (hr.mono (by decide)) (by rfl) (pa_cons (pe_cal C_law_made (hr.mono (by decide)) (by rfl) (pa_cons (pv 1) (pa_cons (pv 2) (pa_cons (pe_lst pa_nil) pa_nil)))) pa_nil)))
(pss_cons (ps_if (pt_cmpR op_eq (pe_cal C_law_kind (hr.mono (by decide)) (by rfl) (pa_cons (pv 2) (pa_cons (pe_lst pa_nil) (pa_cons (pv 7) pa_nil)))) pe_str (nomark _))
(pss_one (ps_expr (pe_bm PySem.F.plainAttrs_list PySem.F.slot_list_append PySem.F.type_list_append mt_append (pv 4) (pa_cons (pe_ix ix_tup (pv 7) pe_int (fun _ _ => rfl)) pa_nil))))
pss_nil)
(pss_cons (ps_set (i := 8) sc__law_tastes.nd rfl (.inl rfl) (pe_cal C_law_row (hr.mono (by decide)) (by rfl) (pa_cons (pv 0) (pa_cons pe_int (pa_cons pe_int pa_nil)))))
(pss_cons (ps_if (pt_truth (pv 2) (fun _ => rfl))
(pss_cons (ps_set (i := 9) sc__law_tastes.nd rfl (.inl rfl) (pe_cal C_law_lowest (hr.mono (by decide)) (by rfl) (pa_cons (pe_op op_add pe_int (pe_op op_mod (pe_callTy call_int1 (by rfl) B.int (by decide +kernel) (pa_cons (pe_ix ix_list (pv 8) pe_int (fun _ _ => rfl)) pa_nil)) pe_int)) (pa_cons (pe_op op_add pe_int (pe_op op_mod (pe_callTy call_int1 (by rfl) B.int (by decide +kernel) (pa_cons (pe_ix ix_list (pv 8) pe_int (fun _ _ => rfl)) pa_nil)) pe_int)) pa_nil))))
(pss_one (ps_set (i := 4) sc__law_tastes.nd rfl (.inl rfl) (pe_op op_cat (pv 4) (pe_cal C_law_without (hr.mono (by decide)) (by rfl) (pa_cons (pv 1) (pa_cons (pv 2) (pa_cons (pv 3) (pa_cons (pe_op op_mod (pe_callTy call_int1 (by rfl) B.int (by decide +kernel) (pa_cons (pe_ix ix_list (pv 8) pe_int (fun _ _ => rfl)) pa_nil)) (pe_callB call_len_seq (by rfl) B.len PySem.boot_len (pa_cons (pv 2) pa_nil))) (pa_cons (pv 9) pa_nil))))))))))
pss_nil)
(pss_one (ps_ret (pv 4))))))))), 
fun ⟨sc, g, bs, ls⟩ hp => by
    show StD K [pureS sc, pureS g, pureS bs, pureS ls, none, none, none, none, none, none] _ _
    obtain ⟨hs, hd⟩ : LTa sc g bs ls := hp
    have g4 : g ≤ 4 := hd.g4
    have l5 : bs.length ≤ 5 := hd.len
    have ll : ls.length ≤ 4 := hd.ll
    have hb : ∀ b ∈ bs, BuyP g b := hd.buys
    have hL : LinksOk bs.length ls := hd.links
    have hB := buys_of g4 l5 hb
    have hmk : MakeOk (DataM.mk g bs []) := ⟨⟨hB, fun _ h => nomatch h⟩, l5⟩
    refine st_seq (st_own (evn_nil (α := List Rat × List Rat)) ?_)
    refine st_seq (st_forT (x := (9 : Nat)) (y := (10 : Nat)) (fun i G' => ∃ ts s5 s6, G' = [pureS sc, pureS g, pureS bs, pureS ls, ownS ts, s5, s6, none, none, none] ∧ TLs bs.length i ts) (evd_tup2 (evd_nat (i := 9)) (evd_nat (i := 10))) ⟨_, _, _, rfl, by decide, fun _ h => nomatch h⟩ (fun G' hI => ⟨_, gd_name, ?_⟩) (fun G' hI => ⟨_, gd_name, ?_⟩) fun G' hI => ?_)
    · obtain ⟨ts, s5, s6, rfl, hts⟩ := hI
      refine st_seq (st_setP (R := RL bs.length 600) (evp_callX (fun r => (r, bs)) (evx_head (evp_call (sc, 9, 13) (eva_cons (evd_var (x := sc) rfl) (eva_cons (evd_var (x := 9) rfl) (eva_cons (evd_nat (i := 13)) eva_nil))) (rowPre hs (by decide) (by decide))) (eva_cons (evd_var (x := bs) rfl) eva_nil)) (fun r hr => ⟨g, hr, g4, l5, hb⟩) (fun r hr y hy => hy)) fun ws hws => ?_)
      have htl := hts.1
      refine st_appP (R := fun p : List Rat × List Rat => RL bs.length 1000000 p.1 ∧ p.2 = ws) rfl (evp_fst (evp_call (bs, ls, ws) (eva_cons (evd_var (x := bs) rfl) (eva_cons (evd_var (x := ls) rfl) (eva_cons (evd_var (x := ws) rfl) eva_nil))) ⟨g, hB, l5, hL, ll, hws⟩) (evd_var (x := ws) rfl)) (by omega) fun t ht => ⟨_, _, _, rfl, hts.add ⟨ht.1, by rw [ht.2]; exact hws.mono (by decide)⟩⟩
    · obtain ⟨ts, s5, s6, rfl, hts⟩ := hI
      refine st_seq (st_setP (R := RL bs.length 600) (evp_callX (fun r => (r, bs)) (evx_head (evp_call (sc, 10, 13) (eva_cons (evd_var (x := sc) rfl) (eva_cons (evd_var (x := 10) rfl) (eva_cons (evd_nat (i := 13)) eva_nil))) (rowPre hs (by decide) (by decide))) (eva_cons (evd_var (x := bs) rfl) eva_nil)) (fun r hr => ⟨g, hr, g4, l5, hb⟩) (fun r hr y hy => hy)) fun ws hws => ?_)
      have htl := hts.1
      refine st_appP (R := fun p : List Rat × List Rat => RL bs.length 1000000 p.1 ∧ p.2 = ws) rfl (evp_fst (evp_call (bs, ls, ws) (eva_cons (evd_var (x := bs) rfl) (eva_cons (evd_var (x := ls) rfl) (eva_cons (evd_var (x := ws) rfl) eva_nil))) ⟨g, hB, l5, hL, ll, hws⟩) (evd_var (x := ws) rfl)) (by omega) fun t ht => ⟨_, _, _, rfl, hts.add ⟨ht.1, by rw [ht.2]; exact hws.mono (by decide)⟩⟩
    · obtain ⟨ts, s5, s6, rfl, hts⟩ := hI
      have htl := hts.1
      refine st_seq (st_setP (R := Chk (DataM.mk g bs [])) (evp_call (DataM.mk g bs []) (eva_cons (evd_call3 (evd_var (x := g) rfl) (evd_var (x := bs) rfl) (EvN.d (evn_nil (α := Link))) ⟨by omega, by decide⟩) eva_nil) hmk) fun x hx => ?_)
      refine st_mid (fun G' => ∃ ts, G' = [pureS sc, pureS g, pureS bs, pureS ls, ownS ts, s5, s6, pureS x, none, none] ∧ TLs bs.length 3 ts) ?_ ?_
      · refine st_if (evb_test (evd_eqS (evd_call (DataM.mk g bs [], x) (eva_cons (evd_var (x := bs) rfl) (eva_cons (EvN.d (evn_nil (α := Link))) (eva_cons (evd_var (x := x) rfl) eva_nil))) ⟨hmk, hx⟩) evd_str)) (fun h => ?_) (fun h => st_next ⟨_, rfl, by omega, hts.2⟩)
        cases x with
        | ring c => exact absurd h (by show ¬ decide (("ring" : Str) = "taste") = true; decide)
        | taste t =>
          have ht : Told (DataM.mk g bs []) t := hx.2
          refine st_app (x := t) rfl (EvD.to (x := t) (evd_snd (evd_var (x := (("taste" : Str), t)) rfl)) rfl) (by omega) ⟨_, rfl, hts.add ht.tl⟩
      · rintro G' ⟨ts, rfl, hts⟩
        have htl := hts.1
        refine st_seq (st_setP (R := RowR 3) (evp_call (sc, 11, 3) (eva_cons (evd_var (x := sc) rfl) (eva_cons (evd_nat (i := 11)) (eva_cons (evd_nat (i := 3)) eva_nil))) (rowPre hs (by decide) (by decide))) fun r hr => ?_)
        have hrl := hr.len
        refine st_mid (fun G' => ∃ ts s9, G' = [pureS sc, pureS g, pureS bs, pureS ls, ownS ts, s5, s6, pureS x, pureS r, s9] ∧ TLs bs.length 4 ts) ?_ ?_
        · refine st_if (evb_truL (EvD.l (evd_var (x := bs) rfl))) (fun h => ?_) (fun h => st_next ⟨_, _, rfl, by omega, hts.2⟩)
          have hpos : 0 < bs.length := by
            cases bs with
            | nil => cases h
            | cons a l => simp
          have m1 := dmod (m := 20) hr.d (j := 1) (by omega) (by decide)
          have m2 := dmod (m := 4) hr.d (j := 2) (by omega) (by decide)
          have b1 := pa_low (n := 0) (p := 1 + r.getD 1 default % 20) (q := 1 + r.getD 2 default % 4) (k := 45) (by omega) (by omega) (by omega) (by omega) (by decide)
          obtain ⟨k, hk, hk'⟩ := nat_of (i := r.getD 0 default) (m := (bs.length : Int)) (by omega)
          refine st_seq (st_set (x := Rat.divInt (1 + r.getD 1 default % 20) (1 + r.getD 2 default % 4)) (evd_call2 (evd_add evd_int (evd_mod (evd_intc (evd_ix (EvD.l (evd_var (x := r) rfl)) (evd_nat (i := 1)) (by omega))) evd_int (by decide))) (evd_add evd_int (evd_mod (evd_intc (evd_ix (EvD.l (evd_var (x := r) rfl)) (evd_nat (i := 2)) (by omega))) evd_int (by decide))) ⟨by omega, fit_lit (by omega)⟩) ?_)
          refine st_ownP (evnp_cat (evl_own (l := ts) rfl) (evp_call (g, bs, ls, k, Rat.divInt (1 + r.getD 1 default % 20) (1 + r.getD 2 default % 4)) (eva_cons (evd_var (x := g) rfl) (eva_cons (evd_var (x := bs) rfl) (eva_cons (evd_var (x := ls) rfl) (eva_cons (EvD.nat (n := k) (evd_mod (evd_intc (evd_ix (EvD.l (evd_var (x := r) rfl)) (evd_nat (i := 0)) (by omega))) (EvD.int (len_of (EvD.l (evd_var (x := bs) rfl)))) (by omega)) hk) (eva_cons (evd_var (x := Rat.divInt (1 + r.getD 1 default % 20) (1 + r.getD 2 default % 4)) rfl) eva_nil))))) ⟨g4, l5, hb, hL, ll, by show k < bs.length; omega, b1.1.mono (by decide)⟩) (fun m hm => by have := hm.1; omega)) fun l hl => ?_
          obtain ⟨m, hm, rfl⟩ := hl
          refine ⟨_, _, rfl, by rw [List.length_append]; have := hm.1; omega, fun t ht => ?_⟩
          rcases List.mem_append.mp ht with z | z
          · exact hts.2 t z
          · exact hm.2 t z
        · rintro G' ⟨ts, s9, rfl, hts⟩
          exact st_retOP (i := 4) rfl rfl hts
⟩
end BB

/-! a table whose rows are changed -/
namespace BB
open PySem PySem.Spec L2
def RowsAt (H : Hp) (ps : List Addr) (tab : Tab) : Prop := All2 (fun p row => H p = some (.lst (row.map obV))) ps tab
def tabK (tab : Tab) : SlotK :=
  ⟨fun K Hs H v F => ∃ a ps, v = .ref a ∧ F = a :: ps ∧ H a = some (.lst (ps.map V.ref)) ∧ (a :: ps).Nodup ∧ RowsAt H ps tab,
    fun {K Hs Hs' H H' v F} e f ⟨a, ps, h1, h2, h3, h4, h5⟩ => ⟨a, ps, h1, h2, by rw [f a (by rw [h2]; simp)]; exact h3, h4, by
      have key : ∀ {qs : List Addr} {t : Tab}, (∀ p ∈ qs, p ∈ F) → RowsAt H qs t → RowsAt H' qs t := fun {qs t} => by
        induction qs generalizing t with
        | nil => intro _ h; cases t with
          | nil => trivial
          | cons _ _ => exact h.elim
        | cons p qs ih => intro hq h; cases t with
          | nil => exact h.elim
          | cons r t => exact ⟨(f p (hq p List.mem_cons_self)).trans h.1, ih (fun x hx => hq x (List.mem_cons_of_mem _ hx)) h.2⟩
      exact key (fun p hp => by rw [h2]; exact List.mem_cons_of_mem _ hp) h5⟩⟩
abbrev tabS (tab : Tab) : Option SlotK := some (tabK tab)
section
variable {K : KF} {H0 Hs H Hs' H' : Hp} {σ : L2.St} {G : GEnv} {E : List Addr}
/-- objects that were not there before are a slot's own -/
theorem EnvOk.setF {k : SlotK} {v : V} {L : List Addr} {Hs1 H1 : Hp} (e : EnvOk K H0 Hs1 H1 σ G E) (g : Grow Hs1 H1 Hs H) (i : Nat) (h1 : ∀ p ∈ L, H1 p = none) (h2 : ∀ p ∈ L, Hs p = none) (h3 : ∀ p ∈ L, H p ≠ none) (h4 : k.P K Hs H v L) :
    EnvOk K H0 Hs H (σ.set i (some v)) (G.set i (some k)) E := by
  obtain ⟨F, f1, f2, f3, f4⟩ := e.own
  have e' := e.grow g
  have hp : ∀ p ∈ L, ∀ j, p ∉ F j := fun p hp j z => (f3 p (.inr ⟨j, z⟩)).2.2 (h1 p hp)
  have hE : ∀ p ∈ L, p ∉ E := fun p hp z => (f3 p (.inl z)).2.2 (h1 p hp)
  obtain ⟨h0', sub', len', _⟩ := e'
  refine ⟨h0', sub', by simp [len'], fun j => if j = i then L else F j, fun j j' a => ?_, fun j a => ?_, fun a ha => ?_, fun j k' hk' => ?_⟩
  · dsimp only
    by_cases z : j = i <;> by_cases z' : j' = i
    · intro _ _; rw [z, z']
    · rw [if_pos z, if_neg z']
      exact fun q1 q2 => absurd q2 (hp a q1 j')
    · rw [if_neg z, if_pos z']
      exact fun q1 q2 => absurd q1 (hp a q2 j)
    · rw [if_neg z, if_neg z']
      exact f1 j j' a
  · dsimp only
    by_cases z : j = i
    · rw [if_pos z]
      exact hE a
    · rw [if_neg z]
      exact f2 j a
  · have old : (a ∈ E ∨ ∃ i, a ∈ F i) → Hs a = none ∧ H0 a = none ∧ H a ≠ none := fun q => by
      obtain ⟨q1, q2, q3⟩ := f3 a q
      refine ⟨?_, q2, ?_⟩
      · cases z : Hs a with
        | none => rfl
        | some o =>
          rcases g.new a o z with y | y
          · rw [q1] at y; cases y
          · exact absurd y q3
      · cases z : H1 a with
        | none => exact absurd z q3
        | some o => rw [g.h a o z]; simp
    rcases ha with ha | ⟨j, ha⟩
    · exact old (.inl ha)
    · dsimp only at ha
      by_cases z : j = i
      · rw [if_pos z] at ha
        exact ⟨h2 a ha, e.h0.free (h1 a ha), h3 a ha⟩
      · rw [if_neg z] at ha
        exact old (.inr ⟨j, ha⟩)
  · by_cases z : j = i
    · subst z
      have hj : j < G.length := by
        have := (List.getElem?_eq_some_iff.mp hk').1
        simpa using this
      rw [List.getElem?_set_self hj] at hk'
      cases hk'
      exact ⟨v, List.getElem?_set_self (by rw [len']; exact hj), by dsimp only; rw [if_pos rfl]; exact h4⟩
    · rw [List.getElem?_set_ne (Ne.symm z)] at hk'
      obtain ⟨u, hu, hq⟩ := f4 j k' hk'
      refine ⟨u, by rw [List.getElem?_set_ne (Ne.symm z)]; exact hu, ?_⟩
      dsimp only
      rw [if_neg z]
      refine k'.mono g.s (fun a ha => ?_) hq
      obtain ⟨_, _, q3⟩ := f3 a (.inr ⟨j, ha⟩)
      cases y : H1 a with
      | none => exact absurd y q3
      | some o => exact g.h a o y
/-- one of a slot's own objects is changed -/
theorem EnvOk.mutF {k k' : SlotK} {i : Nat} {a : Addr} {o : HO} (e : EnvOk K H0 Hs H σ G E) (h : G[i]? = some (some k)) (ha : ∀ v F, σ[i]? = some (some v) → k.P K Hs H v F → a ∈ F ∧ k'.P K Hs (upd H a o) v F) :
    EnvOk K H0 Hs (upd H a o) σ (G.set i (some k')) E := by
  obtain ⟨h0, sub, len, F, f1, f2, f3, f4⟩ := e
  obtain ⟨v, hv, hq⟩ := f4 i _ h
  obtain ⟨hm, h4⟩ := ha v (F i) hv hq
  obtain ⟨q1, q2, q3⟩ := f3 a (.inr ⟨i, hm⟩)
  refine ⟨fun b o hb => ?_, fun b o hb => ?_, by simp [len], F, f1, f2, fun b hb => ?_, fun j k'' hk' => ?_⟩
  · have : b ≠ a := fun z => by rw [z, q2] at hb; cases hb
    rw [upd_ne this]
    exact h0 b o hb
  · have : b ≠ a := fun z => by rw [z, q1] at hb; cases hb
    rw [upd_ne this]
    exact sub b o hb
  · obtain ⟨r1, r2, r3⟩ := f3 b hb
    refine ⟨r1, r2, ?_⟩
    by_cases z : b = a
    · rw [z, upd_same]; simp
    · rw [upd_ne z]; exact r3
  · by_cases z : j = i
    · subst z
      have hj : j < G.length := by
        have := (List.getElem?_eq_some_iff.mp hk').1
        simpa using this
      rw [List.getElem?_set_self hj] at hk'
      cases hk'
      exact ⟨v, hv, h4⟩
    · rw [List.getElem?_set_ne (Ne.symm z)] at hk'
      obtain ⟨u, hu, hq⟩ := f4 j k'' hk'
      refine ⟨u, hu, k''.mono (Same.refl _) (fun b hb => ?_) hq⟩
      have : b ≠ a := fun y => by
        subst y
        exact z (f1 j i b hb hm)
      rw [upd_ne this]
theorem rows_get {H : Hp} : ∀ {ps : List Addr} {tab : Tab} {i : Nat}, RowsAt H ps tab → i < tab.length → ∃ p, ps[i]? = some p ∧ H p = some (.lst ((tab.getD i default).map obV))
  | p :: ps, r :: tab, 0, h, _ => ⟨p, rfl, h.1⟩
  | p :: ps, r :: tab, i + 1, h, hi => by
    obtain ⟨q, h1, h2⟩ := rows_get (i := i) h.2 (by simpa using hi)
    exact ⟨q, by simpa using h1, by simpa using h2⟩
  | _, [], _, _, hi => absurd hi (Nat.not_lt_zero _)
  | [], _ :: _, _, h, _ => h.elim
theorem rep_row {Hs : Hp} : ∀ {row : List (Option Bool)}, All2 (Rep.rep K Hs) (row.map obV) row
  | [] => trivial
  | _ :: _ => ⟨rep_ob, rep_row⟩
theorem row_rep {Hs : Hp} : ∀ {vs : List V} {row : List (Option Bool)}, All2 (Rep.rep K Hs) vs row → vs = row.map obV
  | [], [], _ => rfl
  | v :: vs, r :: row, h => by rw [ob_rep h.1, row_rep h.2]; rfl
  | [], _ :: _, h => h.elim
  | _ :: _, [], h => h.elim
theorem rows_same {H H' : Hp} : ∀ {ps : List Addr} {tab : Tab}, (∀ p ∈ ps, H' p = H p) → RowsAt H ps tab → RowsAt H' ps tab
  | [], [], _, _ => trivial
  | p :: ps, r :: tab, f, h => ⟨(f p List.mem_cons_self).trans h.1, rows_same (fun x hx => f x (List.mem_cons_of_mem _ hx)) h.2⟩
  | [], _ :: _, _, h => h.elim
  | _ :: _, [], _, h => h.elim
theorem rows_keep {H H' : Hp} (g : Same H H') : ∀ {ps : List Addr} {tab : Tab}, RowsAt H ps tab → RowsAt H' ps tab
  | [], [], _ => trivial
  | p :: ps, r :: tab, h => ⟨g _ _ h.1, rows_keep g h.2⟩
  | [], _ :: _, h => h.elim
  | _ :: _, [], h => h.elim
theorem rows_set {H : Hp} {p : Addr} {row : List (Option Bool)} : ∀ {ps : List Addr} {tab : Tab} {i : Nat}, RowsAt H ps tab → ps.Nodup → ps[i]? = some p → RowsAt (upd H p (.lst (row.map obV))) ps (tab.set i row)
  | q :: ps, r :: tab, 0, h, hn, hp => by
    have e : q = p := by simpa using hp
    subst e
    refine ⟨upd_same, rows_same (fun x hx => upd_ne fun z => ?_) h.2⟩
    subst z
    exact (List.nodup_cons.mp hn).1 hx
  | q :: ps, r :: tab, i + 1, h, hn, hp => by
    have hp : ps[i]? = some p := by simpa using hp
    have n : q ≠ p := fun z => (List.nodup_cons.mp hn).1 (z ▸ List.mem_of_getElem? hp)
    exact ⟨(upd_ne n).trans h.1, rows_set h.2 (List.nodup_cons.mp hn).2 hp⟩
  | _ :: _, [], _, h, _, _ => h.elim
  | [], _, _, _, _, hp => by simp at hp
variable {ta te tn ti tl : TE} {D : Post} {t i j : Nat} {tab : Tab}
theorem evl_row (ht : G[t]? = some (tabS tab)) (hi : EvD K G ti i) (hl : i < tab.length) : EvL (α := Option Bool) K G (tOp (rIxL K) (tVar t) ti) (tab.getD i default) := fun H0 Hs H σ E e Q q => by
  obtain ⟨v, F, hv, ⟨a, ps, rfl, _, _⟩, _⟩ := e.own1 ht
  refine ⟨.ref a, hv, hi H0 Hs H σ E e _ fun w Hs2 H2 g2 r2 => ?_⟩
  have e2 := e.grow g2
  obtain ⟨v', F', hv', ⟨a', ps', rfl, _, ha, _, hr⟩, _⟩ := e2.own1 ht
  rw [hv] at hv'
  cases hv'
  cases (show w = .int (i : Int) from r2)
  obtain ⟨p, hp, hrow⟩ := rows_get hr hl
  exact ⟨a, _, i, .ref p, rfl, rfl, .inl (.inl ha), atI_nat (by rw [List.getElem?_map, hp]; rfl), q p _ Hs2 H2 g2 hrow rep_row⟩
theorem st_put2 {y : Option Bool} (ht : G[t]? = some (tabS tab)) (hy : EvD K G te y) (hi : EvD K G ti i) (hl : i < tab.length) (hj : EvD K G tn j) (hk : j < (tab.getD i default).length) (q : D.nx (G.set t (tabS (tab.set i ((tab.getD i default).set j y))))) :
    StD K G (tAsg te (gSub (tOp (rIxL K) (tVar t) ti) tn rSetL)) D := fun Hs0 H0 Hs H σ E e g0 De p =>
  hy H0 Hs H σ E e _ fun u Hs1 H1 g1 r1 => by
    have e1 := e.grow g1
    obtain ⟨v, F, hv, ⟨a, ps, rfl, _, _⟩, _⟩ := e1.own1 ht
    refine ⟨.ref a, hv, hi H0 Hs1 H1 σ E e1 _ fun w Hs2 H2 g2 r2 => ?_⟩
    have e2 := e1.grow g2
    obtain ⟨v', F', hv', ⟨a', ps', rfl, _, ha, _, hr⟩, _⟩ := e2.own1 ht
    rw [hv] at hv'
    cases hv'
    cases (show w = .int (i : Int) from r2)
    obtain ⟨b, hb, hrow⟩ := rows_get hr hl
    refine ⟨a, _, i, .ref b, rfl, rfl, .inl (.inl ha), atI_nat (by rw [List.getElem?_map, hb]; rfl), hj H0 Hs2 H2 σ E e2 _ fun x Hs3 H3 g3 r3 => ?_⟩
    have e3 := e2.grow g3
    cases (show x = .int (j : Int) from r3)
    have hrow3 := g3.h _ _ hrow
    have hu := ob_rep r1
    subst hu
    obtain ⟨v3, F3, hv3, ⟨a3, ps3, rfl, hF3, ha3, hn3, hr3⟩, hz3⟩ := e3.own1 ht
    rw [hv] at hv3
    cases hv3
    have hps : ps3 = ps' := by
      have := g3.h _ _ ha
      rw [ha3] at this
      have h5 : ps3.map V.ref = ps'.map V.ref := HO.lst.inj (Option.some.inj this)
      have inj : ∀ {l m : List Addr}, l.map V.ref = m.map V.ref → l = m := fun {l} => by
        induction l with
        | nil => intro m h; cases m with
          | nil => rfl
          | cons _ _ => cases h
        | cons x l ih => intro m h; cases m with
          | nil => cases h
          | cons y m =>
            simp only [List.map_cons, List.cons.injEq, V.ref.injEq] at h
            rw [h.1, ih h.2]
      exact inj h5
    subst hps
    have hbm : b ∈ ps3 := List.mem_of_getElem? hb
    have hab : b ≠ a := fun z => (List.nodup_cons.mp hn3).1 (z ▸ hbm)
    obtain ⟨z1, z2⟩ := hz3 b (by rw [hF3]; exact List.mem_cons_of_mem _ hbm)
    refine ⟨b, _, j, j, rfl, rfl, hrow3, ?_, p.nx _ _ Hs3 _ q (e3.mutF ht fun v F hv' hP => ?_) (grow_mut (((g0.trans g1).trans g2).trans g3) z1 z2)⟩
    · have hlen : ((tab.getD i default).map obV).length = (tab.getD i default).length := List.length_map _
      unfold L2.ixN
      rw [if_pos (by omega), if_pos (by omega)]
      rfl
    · rw [hv] at hv'
      cases hv'
      obtain ⟨a4, ps4, h1, hF4, ha4, hn4, hr4⟩ := hP
      cases h1
      have hps4 : ps4 = ps3 := by
        rw [ha3] at ha4
        have h5 : ps3.map V.ref = ps4.map V.ref := HO.lst.inj (Option.some.inj ha4)
        have inj : ∀ {l m : List Addr}, l.map V.ref = m.map V.ref → l = m := fun {l} => by
          induction l with
          | nil => intro m h; cases m with
            | nil => rfl
            | cons _ _ => cases h
          | cons x l ih => intro m h; cases m with
            | nil => cases h
            | cons y m =>
              simp only [List.map_cons, List.cons.injEq, V.ref.injEq] at h
              rw [h.1, ih h.2]
        exact (inj h5).symm
      subst hps4
      refine ⟨by rw [hF4]; exact List.mem_cons_of_mem _ hbm, a, ps4, rfl, hF4, by rw [upd_ne (Ne.symm hab)]; exact ha4, hn4, ?_⟩
      have := rows_set (row := (tab.getD i default).set j y) hr4 (List.nodup_cons.mp hn4).2 hb
      rw [List.map_set] at this
      exact this
/-- the table is given away: from now on it stands still -/
theorem st_freeze2 {u : TS} (t : Nat) (ht : G[t]? = some (tabS tab)) (k : StD K (G.set t (pureS tab)) u D) : StD K G u D := fun Hs0 H0 Hs H σ E e g0 De p => by
  obtain ⟨h0, sub, len, F, f1, f2, f3, f4⟩ := e
  obtain ⟨v, hv, a, ps, rfl, hF, ha, hn, hr⟩ := f4 t _ ht
  have hq : ∀ b ∈ F t, Hs b = none ∧ H0 b = none ∧ H b ≠ none := fun b hb => f3 b (.inr ⟨t, hb⟩)
  have hd : ∀ b : Addr, Decidable (b ∈ F t) := fun b => Classical.propDecidable _
  let Hs' : Hp := fun b => if b ∈ F t then H b else Hs b
  have i1 : ∀ {b}, b ∈ F t → Hs' b = H b := fun h => if_pos h
  have i2 : ∀ {b}, b ∉ F t → Hs' b = Hs b := fun h => if_neg h
  have e1 : Same Hs Hs' := fun b o hb => by
    rw [i2 (fun z => by rw [(hq b z).1] at hb; cases hb)]
    exact hb
  have e2 : Same Hs' H := fun b o hb => by
    by_cases z : b ∈ F t
    · rw [i1 z] at hb; exact hb
    · rw [i2 z] at hb; exact sub b o hb
  refine k Hs0 H0 Hs' H σ E ⟨h0, e2, by simp [len], fun j => if j = t then [] else F j, fun j j' b => ?_, fun j b => ?_, fun b hb => ?_, fun j k' hk' => ?_⟩ ⟨g0.s.trans e1, g0.h, e2, fun b o hb => ?_⟩ De p
  · dsimp only
    by_cases z : j = t
    · rw [if_pos z]; intro q; exact nomatch q
    · by_cases z' : j' = t
      · rw [if_pos z']; intro _ q; exact nomatch q
      · rw [if_neg z, if_neg z']; exact f1 j j' b
  · dsimp only
    by_cases z : j = t
    · rw [if_pos z]; intro q; exact nomatch q
    · rw [if_neg z]; exact f2 j b
  · have old : (b ∈ E ∨ ∃ i, b ∈ F i) ∧ b ∉ F t := by
      rcases hb with hb | ⟨j, hb⟩
      · exact ⟨.inl hb, fun z => f2 t b z hb⟩
      · dsimp only at hb
        by_cases z : j = t
        · rw [if_pos z] at hb; exact nomatch hb
        · rw [if_neg z] at hb
          exact ⟨.inr ⟨j, hb⟩, fun y => z (f1 j t b hb y)⟩
    obtain ⟨r1, r2, r3⟩ := f3 b old.1
    exact ⟨by rw [i2 old.2]; exact r1, r2, r3⟩
  · by_cases z : j = t
    · subst z
      have hj : j < G.length := by
        have := (List.getElem?_eq_some_iff.mp hk').1
        simpa using this
      rw [List.getElem?_set_self hj] at hk'
      cases hk'
      have hin : ∀ b ∈ a :: ps, b ∈ F j := fun b hb => by rw [hF]; exact hb
      have key : ∀ {qs : List Addr} {tb : Tab}, (∀ b ∈ qs, b ∈ F j) → RowsAt H qs tb → All2 (Rep.rep K Hs') (qs.map V.ref) tb := fun {qs tb} => by
        induction qs generalizing tb with
        | nil => intro _ h; cases tb with
          | nil => trivial
          | cons _ _ => exact h.elim
        | cons b qs ih => intro hq h; cases tb with
          | nil => exact h.elim
          | cons r tb => exact ⟨⟨b, _, rfl, by rw [i1 (hq b List.mem_cons_self)]; exact h.1, rep_row⟩, ih (fun x hx => hq x (List.mem_cons_of_mem _ hx)) h.2⟩
      exact ⟨.ref a, hv, a, ps.map V.ref, rfl, by rw [i1 (hin a List.mem_cons_self)]; exact ha, key (fun b hb => hin b (List.mem_cons_of_mem _ hb)) hr⟩
    · rw [List.getElem?_set_ne (Ne.symm z)] at hk'
      obtain ⟨u, hu, hq'⟩ := f4 j k' hk'
      exact ⟨u, hu, by dsimp only; rw [if_neg z]; exact k'.mono e1 (fun _ _ => rfl) hq'⟩
  · by_cases z : b ∈ F t
    · exact .inr (hq b z).2.1
    · rw [i2 z] at hb; exact g0.new b o hb
/-! [[..] for k in range(n)] -/
def Mk2 (Hs1 H1 : Hp) (D : Addr) (tab : Tab) (H' : Hp) : Prop := ∃ Hs' ps, Grow Hs1 H1 Hs' H' ∧ Hs' D = none ∧ H' D = some (.lst (ps.map V.ref)) ∧ (D :: ps).Nodup ∧ (∀ p ∈ ps, H1 p = none ∧ Hs' p = none) ∧ RowsAt H' ps tab
theorem rows_app {H : Hp} {p : Addr} {row : List (Option Bool)} (hp : H p = some (.lst (row.map obV))) : ∀ {ps : List Addr} {tab : Tab}, RowsAt H ps tab → RowsAt H (ps ++ [p]) (tab ++ [row])
  | [], [], _ => ⟨hp, trivial⟩
  | _ :: _, _ :: _, h => ⟨h.1, rows_app hp h.2⟩
  | [], _ :: _, h => h.elim
  | _ :: _, [], h => h.elim
theorem rows_len {H : Hp} : ∀ {ps : List Addr} {tab : Tab}, RowsAt H ps tab → ps.length = tab.length
  | [], [], _ => rfl
  | _ :: _, _ :: _, h => congrArg Nat.succ (rows_len h.2)
  | [], _ :: _, h => h.elim
  | _ :: _, [], h => h.elim
theorem rows_some {H : Hp} : ∀ {ps : List Addr} {tab : Tab}, RowsAt H ps tab → ∀ p ∈ ps, H p ≠ none
  | p :: ps, r :: tab, h, q, hq => by
    rcases List.mem_cons.mp hq with z | z
    · rw [z, h.1]; simp
    · exact rows_some h.2 q z
  | [], _, _, _, hq => nomatch hq
  | _ :: _, [], h, _, _ => h.elim
theorem st_tab {vs : List Nat} {n x : Nat} (f : Nat → List (Option Bool)) (h : EvD K G tn n) (hn : n < 100000) (hj : j ∈ vs) (he : ∀ k, k < n → EvN K ((wipeG G vs).set j (pureS k)) te (f k)) (q : D.nx (G.set x (tabS ((List.range n).map f)))) :
    StD K G (tAsg (tLc (iRng1 (tCons tn tNil)) (gName j) tYes te vs) (gName x)) D := fun Hs0 H0 Hs H σ E e g0 De p =>
  h H0 Hs H σ E e _ fun v Hs1 H1 g1 r1 => by
    cases (show v = .int (n : Int) from r1)
    refine ⟨n, rfl, by omega, by omega, fun D' hD => ?_⟩
    have e1 := e.grow g1
    refine lc_range (lo := 0) (n := ((n : Int) : Int).toNat) (fun i H' => Mk2 Hs1 H1 D' ((List.range i).map f) H') ?_ (fun i H' hi p => ?_) (fun H' p' => ?_)
    · exact ⟨Hs1, [], Grow.newO g1.sub hD, g1.sub.free hD, upd_same, by simp, (fun _ h => nomatch h), trivial⟩
    · have e0 : (0 : Int) + (i : Int) = (i : Int) := Int.zero_add _
      have hi' : i < n := by simpa using hi
      show L2.wipe ((L2.wipe σ vs).set j (some (.int ((0 : Int) + (i : Int))))) vs = L2.wipe σ vs ∧ _
      refine ⟨wipe_set hj, ?_⟩
      show te ((L2.wipe σ vs).set j (some (.int ((0 : Int) + (i : Int))))) H' _
      rw [e0]
      obtain ⟨Hs', ps, g, q1, q2, q3, q4, q5⟩ := p
      have e2 := ((e1.addE g hD q1 (by rw [q2]; simp)).wipe vs).setP (x := i) (v := .int (i : Int)) j rfl
      refine he i hi' H0 Hs' H' _ _ e2 _ fun b ws Hs4 H4 g4 b1 b2 b3 b4 => ?_
      have e4 := e2.grow g4
      have g' := g.trans g4
      have hn4 : Hs4 D' = none := (e4.inE List.mem_cons_self).1
      have hrow := row_rep b4
      subst hrow
      have bD : b ≠ D' := fun z => by rw [z, q2] at b1; cases b1
      have bps : b ∉ ps := fun z => rows_some q5 b z b1
      have hlen := rows_len q5
      rw [List.length_map, List.length_range] at hlen
      refine ⟨ps.map V.ref, g4.h _ _ q2, Nat.lt_of_lt_of_le (by rw [List.length_map]; omega) (show 100000 ≤ sizeLine by decide), Hs4, ps ++ [b], ⟨g'.s, fun a o ha => ?_, fun a o ha => ?_, g'.new⟩, hn4, ?_, ?_, fun p hp => ?_, ?_⟩
      · rw [upd_ne (ne_of_none ha hD)]
        exact g'.h a o ha
      · rw [upd_ne (ne_of_none ha hn4)]
        exact g'.sub a o ha
      · rw [upd_same, List.map_append]
        rfl
      · obtain ⟨n1, n2⟩ := List.nodup_cons.mp q3
        refine List.nodup_cons.mpr ⟨fun z => ?_, List.nodup_append.mpr ⟨n2, by simp, fun x hx y hy z => ?_⟩⟩
        · rcases List.mem_append.mp z with z | z
          · exact n1 z
          · exact bD (List.mem_singleton.mp z).symm
        · rw [List.mem_singleton.mp hy] at z
          exact bps (z ▸ hx)
      · rcases List.mem_append.mp hp with z | z
        · obtain ⟨r1, r2⟩ := q4 p z
          refine ⟨r1, ?_⟩
          cases y : Hs4 p with
          | none => rfl
          | some o =>
            rcases g4.new p o y with y' | y'
            · rw [r2] at y'; cases y'
            · exact absurd y' (rows_some q5 p z)
        · rw [List.mem_singleton.mp z]
          refine ⟨g.h.free b1, b2⟩
      · rw [List.range_succ, List.map_append]
        have up : ∀ p ∈ ps ++ [b], upd H4 D' (.lst (ps.map V.ref ++ [V.ref b])) p = H4 p := fun p hp => upd_ne fun z => by
          subst z
          rcases List.mem_append.mp hp with y | y
          · exact (List.nodup_cons.mp q3).1 y
          · exact bD (List.mem_singleton.mp y).symm
        exact rows_same up (rows_app b3 (rows_keep g4.h q5))
    · obtain ⟨Hs', ps, g, q1, q2, q3, q4, q5⟩ := p'
      have e3 := e1.setF (k := tabK ((List.range n).map f)) (v := .ref D') (L := D' :: ps) g x (fun p hp => ?_) (fun p hp => ?_) (fun p hp => ?_) ⟨D', ps, rfl, rfl, q2, q3, by simpa using q5⟩
      · exact p.nx _ _ Hs' H' q e3 ((g0.trans g1).trans g)
      · rcases List.mem_cons.mp hp with z | z
        · rw [z]; exact hD
        · exact (q4 p z).1
      · rcases List.mem_cons.mp hp with z | z
        · rw [z]; exact q1
        · exact (q4 p z).2
      · rcases List.mem_cons.mp hp with z | z
        · rw [z, q2]; simp
        · exact rows_some q5 p z
end
end BB

/-! the closure: turns until nothing changes -/
namespace BB
def rk : Option Bool → Nat
  | none => 0
  | some false => 1
  | some true => 2
def rank : List (Option Bool) → Nat
  | [] => 0
  | a :: l => rk a + rank l
theorem rk_le (a : Option Bool) : rk a ≤ 2 := by
  match a with
  | none => decide
  | some false => decide
  | some true => decide
theorem rank_le : ∀ l : List (Option Bool), rank l ≤ 2 * l.length
  | [] => Nat.le_refl _
  | a :: l => by
    have h1 := rank_le l
    have h2 := rk_le a
    show rk a + rank l ≤ 2 * (l.length + 1)
    omega
theorem rank_set : ∀ {l : List (Option Bool)} {k : Nat} {v : Option Bool}, k < l.length → rank (l.set k v) + rk (l.getD k default) = rank l + rk v
  | a :: l, 0, v, _ => by
    show rk v + rank l + rk a = rk a + rank l + rk v
    omega
  | a :: l, k + 1, v, h => by
    have ih := rank_set (l := l) (k := k) (v := v) (by simpa using h)
    have e : (a :: l).getD (k + 1) default = l.getD k default := by simp [List.getD_eq_getElem?_getD]
    show rk a + rank (l.set k v) + rk ((a :: l).getD (k + 1) default) = rk a + rank l + rk v
    rw [e]
    omega
  | [], _, _, h => absurd h (Nat.not_lt_zero _)
theorem getD_set {α : Type} [Inhabited α] {l : List α} {j k : Nat} {v : α} (hk : k < l.length) : (l.set k v).getD j default = if j = k then v else l.getD j default := by
  by_cases e : j = k
  · subst e
    rw [if_pos rfl, List.getD_eq_getElem?_getD, List.getElem?_set_self hk]
    rfl
  · rw [if_neg e, List.getD_eq_getElem?_getD, List.getElem?_set_ne (Ne.symm e), ← List.getD_eq_getElem?_getD]
theorem set_same {α : Type} [Inhabited α] {l : List α} {k : Nat} (hk : k < l.length) : l.set k (l.getD k default) = l := by
  rw [List.getD_eq_getElem?_getD, List.getElem?_eq_getElem hk]
  exact List.set_getElem_self hk
/-- what holds of a row at any time -/
structure RowI (tab : Tab) (n i : Nat) (row : List (Option Bool)) : Prop where
  len : row.length = n
  sound : ∀ k, k < n → ∀ s, row.getD k default = some s → Reach tab n i k s
  start : (row.getD i default).isSome = true
/-- the pair asks for nothing more -/
def Cl (tab : Tab) (row : List (Option Bool)) (j k : Nat) : Prop := ∀ s o, row.getD j default = some s → tg tab j k = some o → row.getD k default = some true ∨ row.getD k default = some (s || o)
def ClAll (tab : Tab) (n : Nat) (row : List (Option Bool)) : Prop := ∀ j k, j < n → k < n → Cl tab row j k
/-- within a pass, at the place (j, k) -/
def PassI (tab : Tab) (n t j k : Nat) (row : List (Option Bool)) : Prop := ClAll tab n row ∨ t + 2 ≤ rank row ∨ (t + 1 ≤ rank row ∧ ∀ j' k', j' < n → k' < n → (j' < j ∨ j' = j ∧ k' < k) → Cl tab row j' k')
theorem RowI.start0 {tab : Tab} {n i : Nat} (hi : i < n) : RowI tab n i (((List.range n).map fun _ => (none : Option Bool)).set i (some false)) ∧ 1 ≤ rank (((List.range n).map fun _ => (none : Option Bool)).set i (some false)) := by
  have hl : ((List.range n).map fun _ => (none : Option Bool)).length = n := by simp
  have h0 : ∀ k, k < n → ((List.range n).map fun _ => (none : Option Bool)).getD k default = none := fun k hk => by
    simp [List.getD_eq_getElem?_getD, List.getElem?_map, List.getElem?_range hk]
  refine ⟨⟨by rw [List.length_set, hl], fun k hk s h => ?_, ?_⟩, ?_⟩
  · rw [getD_set (by rw [hl]; exact hi)] at h
    split at h
    · rename_i e
      subst e
      cases h
      exact .refl
    · rw [h0 k hk] at h
      cases h
  · rw [getD_set (by rw [hl]; exact hi), if_pos rfl]
    rfl
  · have := rank_set (l := (List.range n).map fun _ => (none : Option Bool)) (k := i) (v := some false) (by rw [hl]; exact hi)
    rw [h0 i hi] at this
    have e1 : rk none = 0 := rfl
    have e2 : rk (some false) = 1 := rfl
    omega
theorem RowI.put {tab : Tab} {n i j k : Nat} {row : List (Option Bool)} {s o : Bool} (R : RowI tab n i row) (hi : i < n) (hj : j < n) (hk : k < n) (h1 : row.getD j default = some s) (h2 : tg tab j k = some o) : RowI tab n i (row.set k (some (s || o))) := by
  have hl := R.len
  refine ⟨by rw [List.length_set, hl], fun m hm x h => ?_, ?_⟩
  · rw [getD_set (by omega)] at h
    split at h
    · rename_i e
      subst e
      cases h
      exact .step (R.sound j hj s h1) hm h2
    · exact R.sound m hm x h
  · rw [getD_set (by omega)]
    split
    · rfl
    · exact R.start
theorem pass_put {tab : Tab} {n t i j k : Nat} {row : List (Option Bool)} {s o : Bool} (R : RowI tab n i row) (hk : k < n) (hj : j < n) (h1 : row.getD j default = some s) (h2 : tg tab j k = some o) (h3 : row.getD k default ≠ some true) (p : PassI tab n t j k row) : PassI tab n t j (k + 1) (row.set k (some (s || o))) := by
  have hl := R.len
  by_cases e : row.getD k default = some (s || o)
  · have es : row.set k (some (s || o)) = row := by
      rw [← e]
      exact set_same (by omega)
    rw [es]
    rcases p with p | p | ⟨p1, p2⟩
    · exact .inl p
    · exact .inr (.inl p)
    · refine .inr (.inr ⟨p1, fun j' k' hj' hk' hp => ?_⟩)
      by_cases z : j' = j ∧ k' = k
      · obtain ⟨rfl, rfl⟩ := z
        intro s' o' a b
        rw [h1] at a
        rw [h2] at b
        cases a
        cases b
        exact .inr e
      · exact p2 j' k' hj' hk' (by omega)
  · have hr := rank_set (l := row) (k := k) (v := some (s || o)) (by omega)
    have hlt : rk (row.getD k default) < rk (some (s || o)) := by
      generalize row.getD k default = a at *
      match a, h3, e with
      | none, _, _ => cases s <;> cases o <;> decide
      | some true, h3, _ => exact absurd rfl h3
      | some false, _, e => cases s <;> cases o <;> first | exact absurd rfl e | decide
    rcases p with p | p | ⟨p1, _⟩
    · rcases p j k hj hk s o h1 h2 with z | z
      · exact absurd z h3
      · exact absurd z e
    · exact .inr (.inl (by omega))
    · exact .inr (.inl (by omega))
theorem pass_skip {tab : Tab} {n t i j k : Nat} {row : List (Option Bool)} (R : RowI tab n i row) (h : ¬ (row.getD j default).isSome = true ∨ ¬ (tg tab j k).isSome = true ∨ row.getD k default = some true) (p : PassI tab n t j k row) : PassI tab n t j (k + 1) row := by
  rcases p with p | p | ⟨p1, p2⟩
  · exact .inl p
  · exact .inr (.inl p)
  · refine .inr (.inr ⟨p1, fun j' k' hj' hk' hp => ?_⟩)
    by_cases z : j' = j ∧ k' = k
    · obtain ⟨rfl, rfl⟩ := z
      intro s o a b
      rcases h with h | h | h
      · rw [a] at h; exact absurd rfl h
      · rw [b] at h; exact absurd rfl h
      · exact .inl h
    · exact p2 j' k' hj' hk' (by omega)
theorem pass_next {tab : Tab} {n t j : Nat} {row : List (Option Bool)} (p : PassI tab n t j n row) : PassI tab n t (j + 1) 0 row := by
  rcases p with p | p | ⟨p1, p2⟩
  · exact .inl p
  · exact .inr (.inl p)
  · exact .inr (.inr ⟨p1, fun j' k' hj' hk' hp => p2 j' k' hj' hk' (by omega)⟩)
/-- between two passes -/
def TurnI (tab : Tab) (n t : Nat) (row : List (Option Bool)) : Prop := ClAll tab n row ∨ t + 1 ≤ rank row
theorem pass_first {tab : Tab} {n t : Nat} {row : List (Option Bool)} (p : TurnI tab n t row) : PassI tab n t 0 0 row := by
  rcases p with p | p
  · exact .inl p
  · exact .inr (.inr ⟨p, fun j' k' _ _ hp => by omega⟩)
theorem pass_last {tab : Tab} {n t : Nat} {row : List (Option Bool)} (p : PassI tab n t n 0 row) : TurnI tab n (t + 1) row := by
  rcases p with p | p | ⟨p1, p2⟩
  · exact .inl p
  · exact .inr p
  · exact .inl fun j k hj hk => p2 j k hj hk (.inl hj)
theorem RowI.done {tab : Tab} {n i : Nat} {row : List (Option Bool)} (R : RowI tab n i row) (hi : i < n) (p : TurnI tab n (2 * n) row) : row = (List.range n).map fun k => leadM tab n i k := by
  have hl := R.len
  have hc : ClAll tab n row := by
    rcases p with p | p
    · exact p
    · have := rank_le row
      omega
  have comp : ∀ k s, Reach tab n i k s → row.getD k default = some true ∨ row.getD k default = some s := fun k s h => by
    induction h with
    | refl =>
      have hs := R.start
      cases z : row.getD i default with
      | none => rw [z] at hs; cases hs
      | some b => cases b <;> simp
    | @step j k s o hr hk ho ih =>
      have hj := hr.lt hi
      rcases ih with z | z
      · rcases hc j k hj hk true o z ho with y | y
        · exact .inl y
        · exact .inl (by simpa using y)
      · exact hc j k hj hk s o z ho
  refine List.ext_getElem (by simp [hl]) fun k h1 h2 => ?_
  have hk : k < n := by omega
  have e : row.getD k default = row[k] := by rw [List.getD_eq_getElem?_getD, List.getElem?_eq_getElem h1]; rfl
  rw [List.getElem_map, List.getElem_range, ← e]
  cases z : row.getD k default with
  | none =>
    cases y : leadM tab n i k with
    | none => rfl
    | some b =>
      obtain ⟨s, hs⟩ := lead_some.mp (by rw [y]; rfl : (leadM tab n i k).isSome = true)
      rcases comp k s hs with q | q <;> rw [z] at q <;> cases q
  | some b =>
    have hr := R.sound k hk b z
    cases b with
    | true => exact (lead_true.mpr hr).symm
    | false =>
      unfold leadM
      rw [if_neg (fun q => by rcases comp k true q with q | q <;> rw [z] at q <;> cases q), if_pos hr]
end BB

/-! the law's closure -/
namespace BB
open PySem PySem.Spec L2
variable {P : Program} {w : World} {K : KF} {mg : Str → Option Value} {base : Heap} {aZ aO : Addr}
abbrev s__law_closure : Stmt := topS 49
abbrev N__law_closure : List Str := ["_law_steps_here", "_law_count", "_law_i", "_law_j", "_law_table", "_law_turn", "_law_k"]
theorem sc__law_closure : FnScope N__law_closure ["_law_steps_here"] (defScope s__law_closure) := ⟨rfl, rfl, rfl, by decide +kernel, rfl, by decide +kernel, by decide +kernel⟩

abbrev noneRow (n : Nat) : List (Option Bool) := (List.range n).map fun _ => (none : Option Bool)
noncomputable abbrev leadRow (tab : Tab) (n i : Nat) : List (Option Bool) := (List.range n).map fun k => leadM tab n i k
/-- the table with so many rows done -/
structure TabI (tab : Tab) (n i : Nat) (T : Tab) : Prop where
  len : T.length = n
  done : ∀ k, k < i → k < n → T.getD k default = leadRow tab n k
  rest : ∀ k, i ≤ k → k < n → T.getD k default = noneRow n
theorem TabI.start {tab : Tab} {n : Nat} : TabI tab n 0 ((List.range n).map fun _ => noneRow n) where
  len := by simp
  done := fun k h => absurd h (Nat.not_lt_zero _)
  rest := fun k _ h => by simp [List.getD_eq_getElem?_getD, List.getElem?_map, List.getElem?_range h]
theorem TabI.next {tab : Tab} {n i : Nat} {T : Tab} (h : TabI tab n i T) (hi : i < n) : TabI tab n (i + 1) (T.set i (leadRow tab n i)) where
  len := by rw [List.length_set, h.len]
  done := fun k hk hn => by
    rw [getD_set (by rw [h.len]; exact hi)]
    by_cases e : k = i
    · rw [if_pos e, e]
    · rw [if_neg e]
      exact h.done k (by omega) hn
  rest := fun k hk hn => by
    rw [getD_set (by rw [h.len]; exact hi), if_neg (by omega)]
    exact h.rest k (by omega) hn
theorem TabI.end {tab : Tab} {n : Nat} {T : Tab} (h : TabI tab n n T) : T = leadsM tab n := by
  show T = (List.range n).map fun i => (List.range n).map fun j => leadM tab n i j
  refine List.ext_getElem (by rw [h.len]; simp) fun k h1 h2 => ?_
  have hk : k < n := by have := h.len; omega
  have e : T.getD k default = T[k] := by rw [List.getD_eq_getElem?_getD, List.getElem?_eq_getElem h1]; rfl
  rw [← e, h.done k hk hk]
  rw [List.getElem_map, List.getElem_range]
abbrev sp__law_closure := sp1 (fun (tab : Tab) => Sq tab.length tab ∧ tab.length ≤ 8) (fun tab => leadsM tab tab.length)
theorem ok__law_closure {f : Addr} {fd : FuncData} (F : Fun K "_law_closure" "_law_closure" s__law_closure f fd) (B : Bi P mg base) : FnOk P w K mg base CX0 40 f fd ["_law_steps_here"] (sp__law_closure K) :=
  fn_st F sc__law_closure (fun _ => rfl) fun cdv A' outer s H E hr => ⟨_,
(pss_cons (ps_set (i := 1) sc__law_closure.nd rfl (.inr rfl) (pe_callB call_len_seq (by rfl) B.len PySem.boot_len (pa_cons (pv 0) pa_nil)))
(pss_cons (ps_setLc (i := 4) (own := [("_law_i", 2)]) (g := gName 2) (tt := tYes) rfl sc__law_closure.nd rfl rfl (sw_true rfl rfl rfl (by decide +kernel)) (pi_range1 (by rfl) B.range (pa_cons (pv 1) pa_nil)) (blkOk_by (N := N__law_closure) (sc := defScope s__law_closure) (by decide +kernel)) (fun _ _ _ _ _ => (pg_name (i := 2) sc__law_closure.nd rfl (.inl rfl))) (fun _ _ _ _ _ => pts_nil) (fun _ _ _ _ _ => (pe_lc (own := [("_law_j", 3)]) (g := gName 3) (tt := tYes) rfl sc__law_closure.nd (pi_range1 (by rfl) B.range (pa_cons (pv 1) pa_nil)) (blkOk_by (N := N__law_closure) (sc := (relS { kind := .function, names := [(".0", .local), ("_law_i", .local), ("range", .globalImplicit), ("_law_count", .free)], isGenerator := false, isCoroutine := false, more := [] } (defScope s__law_closure))) (by decide +kernel)) (fun _ _ _ _ _ => (pg_name (i := 3) sc__law_closure.nd rfl (.inl rfl))) (fun _ _ _ _ _ => pts_nil) (fun _ _ _ _ _ => pe_non))))
(pss_cons (ps_for PassesOwn.never rfl (pi_range1 (by rfl) B.range (pa_cons (pv 1) pa_nil)) (pg_name (i := 2) sc__law_closure.nd rfl (.inl rfl))
(pss_cons (ps_asg pe_bl (pg_sub (pe_ix ix_list (pv 4) (pv 2) (fun _ _ => rfl)) (pv 2) set_list))
(pss_one (ps_for PassesOwn.never rfl (pi_range1 (by rfl) B.range (pa_cons (pe_op op_mulA pe_int (pv 1)) pa_nil)) (pg_name (i := 5) sc__law_closure.nd rfl (.inl rfl))
(pss_one (ps_for PassesOwn.never rfl (pi_range1 (by rfl) B.range (pa_cons (pv 1) pa_nil)) (pg_name (i := 3) sc__law_closure.nd rfl (.inl rfl))
(pss_one (ps_for PassesOwn.never rfl (pi_range1 (by rfl) B.range (pa_cons (pv 1) pa_nil)) (pg_name (i := 6) sc__law_closure.nd rfl (.inl rfl))
(pss_one (ps_if (PW.pt (pw_and (pt_cmpR op_notN (pe_ix ix_list (pe_ix ix_list (pv 4) (pv 2) (fun _ _ => rfl)) (pv 3) (fun _ _ => rfl)) pe_non (nomark _)) (pw_and (pt_cmpR op_notN (pe_ix ix_list (pe_ix ix_list (pv 0) (pv 3) (fun _ _ => rfl)) (pv 6) (fun _ _ => rfl)) pe_non (nomark _)) (pw_and1 (pt_cmpR op_notT (pe_ix ix_list (pe_ix ix_list (pv 4) (pv 2) (fun _ _ => rfl)) (pv 6) (fun _ _ => rfl)) pe_bl (nomark _))))))
(pss_one (ps_asg (pe_or (pe_ix ix_list (pe_ix ix_list (pv 4) (pv 2) (fun _ _ => rfl)) (pv 3) (fun _ _ => rfl)) (pe_or (pe_ix ix_list (pe_ix ix_list (pv 0) (pv 3) (fun _ _ => rfl)) (pv 6) (fun _ _ => rfl)) (pe_one (pe_cmpR op_isT (pe_ix ix_list (pe_ix ix_list (pv 4) (pv 2) (fun _ _ => rfl)) (pv 6) (fun _ _ => rfl)) pe_bl (nomark _))))) (pg_sub (pe_ix ix_list (pv 4) (pv 2) (fun _ _ => rfl)) (pv 6) set_list)))
pss_nil))))))))))
(pss_one (ps_ret (pv 4)))))), 
fun tab hp => by
    show StD K [pureS tab, none, none, none, none, none, none] _ _
    obtain ⟨hsq, h8⟩ : Sq tab.length tab ∧ tab.length ≤ 8 := hp
    refine st_seq (st_set (x := tab.length) (len_of (EvD.l (evd_var (x := tab) rfl))) ?_)
    show StD K [pureS tab, pureS tab.length, none, none, none, none, none] _ _
    generalize hn : tab.length = n at *
    refine st_seq (st_tab (fun _ => noneRow n) (evd_var (x := n) rfl) (by omega) (by decide) (fun i hi => evn_lcR0 (fun k => (none : Option Bool)) (evd_var (x := n) rfl) (by omega) (by decide) (fun k hk => evd_non)) ?_)
    refine st_seq (st_forR (fun i G' => ∃ T s2 s3 s5 s6, G' = [pureS tab, pureS n, s2, s3, tabS T, s5, s6] ∧ TabI tab n i T) (evd_var (x := n) rfl) (by omega) ⟨_, _, _, _, _, rfl, TabI.start⟩ (fun i G' hi hI => ?_) fun G' hI => ?_)
    · obtain ⟨T, s2, s3, s5, s6, rfl, hT⟩ := hI
      have hTl := hT.len
      have hr0 : T.getD i default = noneRow n := hT.rest i (Nat.le_refl _) hi
      refine st_seq (st_put2 (i := i) (j := i) (y := some false) rfl (EvD.some evd_bl) (evd_var (x := i) rfl) (by omega) (evd_var (x := i) rfl) (by rw [hr0]; simp; omega) ?_)
      show StD K [pureS tab, pureS n, pureS i, s3, tabS (T.set i ((T.getD i default).set i (some false))), s5, s6] _ _
      rw [hr0]
      obtain ⟨R0, hk0⟩ := RowI.start0 (tab := tab) hi
      refine st_forR (n := 2 * n) (fun t G' => ∃ row s3 s5 s6, G' = [pureS tab, pureS n, pureS i, s3, tabS (T.set i row), s5, s6] ∧ RowI tab n i row ∧ TurnI tab n t row) (EvD.nat (evd_mul evd_int (EvD.int (evd_var (x := n) rfl)) (Fit.mulOk fit_c (fit_b (i := (n : Int)) (by omega) (by omega)) (by decide))) (by omega)) (by omega) ⟨_, _, _, _, rfl, R0, .inr (by omega)⟩ (fun t G' ht hI => ?_) fun G' hI => ?_
      · obtain ⟨row, s3, s5, s6, rfl, R, hp⟩ := hI
        refine st_forR (fun j G' => ∃ row s3 s6, G' = [pureS tab, pureS n, pureS i, s3, tabS (T.set i row), pureS t, s6] ∧ RowI tab n i row ∧ PassI tab n t j 0 row) (evd_var (x := n) rfl) (by omega) ⟨_, _, _, rfl, R, pass_first hp⟩ (fun j G' hj hI => ?_) fun G' hI => ?_
        · obtain ⟨row, s3, s6, rfl, R, hp⟩ := hI
          refine st_forR (fun k G' => ∃ row s6, G' = [pureS tab, pureS n, pureS i, pureS j, tabS (T.set i row), pureS t, s6] ∧ RowI tab n i row ∧ PassI tab n t j k row) (evd_var (x := n) rfl) (by omega) ⟨_, _, rfl, R, hp⟩ (fun k G' hk hI => ?_) fun G' hI => ?_
          · obtain ⟨row, s6, rfl, R, hp⟩ := hI
            have hrl := R.len
            have hTi : (T.set i row).getD i default = row := by rw [getD_set (by omega), if_pos rfl]
            have hTs : (T.set i row).length = n := by rw [List.length_set, hTl]
            have ra : ∀ {G : GEnv} {t m : Nat}, G[4]? = some (tabS (T.set i row)) → G[2]? = some (pureS i) → G[t]? = some (pureS m) → m < n → EvD K G (tOp (rIxL K) (tOp (rIxL K) (tVar 4) (tVar 2)) (tVar t)) (row.getD m default) := fun h4 h2 ht hm => by
              have := evd_ix (K := K) (evl_row h4 (evd_var (x := i) h2) (by rw [hTs]; exact hi)) (evd_var (x := _) ht) (by rw [hTi, hrl]; exact hm)
              rw [hTi] at this
              exact this
            have rb : ∀ {G : GEnv}, G[0]? = some (pureS tab) → G[3]? = some (pureS j) → G[6]? = some (pureS k) → EvD K G (tOp (rIxL K) (tOp (rIxL K) (tVar 0) (tVar 3)) (tVar 6)) (tg tab j k) := fun h0 h3 h6 =>
              evd_ix (EvD.l (evd_ix (EvD.l (evd_var (x := tab) h0)) (evd_var (x := j) h3) (by rw [hn]; exact hj))) (evd_var (x := k) h6) (by rw [hsq.at hj]; exact hk)
            refine st_if (b := (row.getD j default).isSome && ((tg tab j k).isSome && !decide (row.getD k default = some true))) (evb_and (evb_test (evd_notN (ra rfl rfl rfl hj))) fun z => (evb_and (evb_test (evd_notN (rb rfl rfl rfl))) fun z => (evb_test (evd_notT (ra rfl rfl rfl hk))))) (fun h => ?_) (fun h => ?_)
            · simp only [Bool.and_eq_true, Bool.not_eq_true', decide_eq_false_iff_not] at h
              obtain ⟨h1, h2, h3⟩ := h
              obtain ⟨s, hs⟩ := Option.isSome_iff_exists.mp h1
              obtain ⟨o, ho⟩ := Option.isSome_iff_exists.mp h2
              refine st_put2 (i := i) (j := k) (y := some (s || o)) rfl (EvD.some (EvD.to (evd_orV (EvD.val (hs ▸ ra rfl rfl rfl hj)) fun z => (evd_orV (EvD.val (ho ▸ rb rfl rfl rfl)) fun z => (evd_isT (ra rfl rfl rfl hk)))) (by rw [decide_eq_false h3, Bool.or_false]))) (evd_var (x := i) rfl) (by rw [hTs]; exact hi) (evd_var (x := k) rfl) (by rw [hTi, hrl]; exact hk) ⟨row.set k (some (s || o)), pureS k, ?_, R.put hi hj hk hs ho, pass_put R hk hj hs ho h3 hp⟩
              rw [hTi, List.set_set]
              rfl
            · refine st_next ⟨_, _, rfl, R, pass_skip R ?_ hp⟩
              by_cases a : (row.getD j default).isSome = true
              · by_cases b : (tg tab j k).isSome = true
                · rw [a, b] at h
                  exact .inr (.inr (by simpa using h))
                · exact .inr (.inl b)
              · exact .inl a
          · obtain ⟨row, s6, rfl, R, hp⟩ := hI
            exact ⟨_, _, _, rfl, R, pass_next hp⟩
        · obtain ⟨row, s3, s6, rfl, R, hp⟩ := hI
          exact ⟨_, _, _, _, rfl, R, pass_last hp⟩
      · obtain ⟨row, s3, s5, s6, rfl, R, hp⟩ := hI
        have e := R.done hi hp
        rw [e]
        exact ⟨_, _, _, _, _, rfl, hT.next hi⟩
    · obtain ⟨T, s2, s3, s5, s6, rfl, hT⟩ := hI
      refine st_freeze2 4 rfl (st_ret (evd_var (x := T) rfl) rfl ?_)
      show T = leadsM tab tab.length
      rw [hn]
      exact hT.end
⟩
end BB

/-! values of any depth -/
namespace BB
open PySem PySem.Spec L2
inductive Tr where
  | int (i : Int)
  | bl (b : Bool)
  | lst (l : List Tr)
  | tup (l : List Tr)
instance : Inhabited Tr := ⟨.int 0⟩
mutual
/-- not deeper than so, no list too long -/
def Tr.lo : Nat → Tr → Prop
  | _, .int _ => True
  | _, .bl _ => True
  | 0, .lst _ => False
  | 0, .tup _ => False
  | n + 1, .lst l => l.length < 100000 ∧ Tr.loL n l
  | n + 1, .tup l => l.length < 100000 ∧ Tr.loL n l
def Tr.loL : Nat → List Tr → Prop
  | _, [] => True
  | n, a :: l => Tr.lo n a ∧ Tr.loL n l
end
mutual
def Tr.rep (K : KF) (H : Hp) : Tr → V → Prop
  | .int i, v => v = .int i
  | .bl b, v => v = .bl b
  | .lst l, v => ∃ a vs, v = .ref a ∧ H a = some (.lst vs) ∧ Tr.repL K H l vs
  | .tup l, v => ∃ a vs, v = .ref a ∧ SqT K H a vs ∧ Tr.repL K H l vs
def Tr.repL (K : KF) (H : Hp) : List Tr → List V → Prop
  | [], vs => vs = []
  | t :: l, vs => ∃ v r, vs = v :: r ∧ Tr.rep K H t v ∧ Tr.repL K H l r
end
mutual
theorem Tr.mono {K : KF} {H H' : Hp} (e : Same H H') : ∀ (t : Tr) (v : V), Tr.rep K H t v → Tr.rep K H' t v
  | .int _, _, h => h
  | .bl _, _, h => h
  | .lst l, _, ⟨a, vs, h1, h2, h3⟩ => ⟨a, vs, h1, e _ _ h2, Tr.monoL e l vs h3⟩
  | .tup l, _, ⟨a, vs, h1, h2, h3⟩ => ⟨a, vs, h1, same_t e h2, Tr.monoL e l vs h3⟩
theorem Tr.monoL {K : KF} {H H' : Hp} (e : Same H H') : ∀ (l : List Tr) (vs : List V), Tr.repL K H l vs → Tr.repL K H' l vs
  | [], _, h => h
  | t :: l, _, ⟨v, r, h1, h2, h3⟩ => ⟨v, r, h1, Tr.mono e t v h2, Tr.monoL e l r h3⟩
end
instance : Rep Tr := ⟨fun K H v t => Tr.rep K H t v, fun e h => Tr.mono e _ _ h⟩
theorem repL_all {K : KF} {H : Hp} : ∀ {l : List Tr} {vs : List V}, Tr.repL K H l vs → All2 (Rep.rep K H) vs l
  | [], _, h => by
    rw [show _ = [] from h]
    trivial
  | t :: l, _, ⟨v, r, h1, h2, h3⟩ => by
    subst h1
    exact ⟨h2, repL_all h3⟩
theorem all_repL {K : KF} {H : Hp} : ∀ {l : List Tr} {vs : List V}, All2 (Rep.rep K H) vs l → Tr.repL K H l vs
  | [], [], _ => rfl
  | t :: l, v :: vs, h => ⟨v, vs, rfl, h.1, all_repL h.2⟩
  | [], _ :: _, h => h.elim
  | _ :: _, [], h => h.elim
theorem lo_at {n k : Nat} : ∀ {l : List Tr}, Tr.loL n l → k < l.length → Tr.lo n (l.getD k default)
  | [], _, hk => absurd hk (Nat.not_lt_zero _)
  | a :: l, h, hk => by
    cases k with
    | zero => exact h.1
    | succ k =>
      have := lo_at (k := k) h.2 (by simpa using hk)
      simpa [List.getD_eq_getElem?_getD] using this
/-- a kind of value, seen as a value of any depth -/
class ToTr (α : Type) [Rep α] where
  tr : α → Tr
  ok : ∀ {K : KF} {H : Hp} {v : V} {x : α}, Rep.rep K H v x → Rep.rep K H v (tr x)
instance : ToTr Int := ⟨.int, fun h => h⟩
instance : ToTr Nat := ⟨fun n => .int n, fun h => h⟩
instance : ToTr Bool := ⟨.bl, fun h => h⟩
theorem all_tr {α : Type} [Rep α] [ToTr α] {K : KF} {H : Hp} : ∀ {vs : List V} {l : List α}, All2 (Rep.rep K H) vs l → Tr.repL K H (l.map ToTr.tr) vs
  | [], [], _ => rfl
  | v :: vs, x :: l, h => ⟨v, vs, rfl, ToTr.ok h.1, all_tr h.2⟩
  | [], _ :: _, h => h.elim
  | _ :: _, [], h => h.elim
instance {α : Type} [Rep α] [ToTr α] : ToTr (List α) := ⟨fun l => .lst (l.map ToTr.tr), fun ⟨a, vs, h1, h2, h3⟩ => ⟨a, vs, h1, h2, all_tr h3⟩⟩
instance {α β : Type} [Rep α] [Rep β] [ToTr α] [ToTr β] : ToTr (α × β) := ⟨fun x => .tup [ToTr.tr x.1, ToTr.tr x.2], fun ⟨a, u, w, h1, h2, h3, h4⟩ => ⟨a, [u, w], h1, h2, u, [w], rfl, ToTr.ok h3, w, [], rfl, ToTr.ok h4, rfl⟩⟩
instance {α β γ : Type} [Rep α] [Rep β] [Rep γ] [ToTr α] [ToTr β] [ToTr γ] : ToTr (T3 α β γ) :=
  ⟨fun x => .tup [ToTr.tr x.a, ToTr.tr x.b, ToTr.tr x.c], fun ⟨a, u, w, z, h1, h2, h3, h4, h5⟩ => ⟨a, [u, w, z], h1, h2, u, [w, z], rfl, ToTr.ok h3, w, [z], rfl, ToTr.ok h4, z, [], rfl, ToTr.ok h5, rfl⟩⟩
instance : ToTr Rat := ⟨fun r => ToTr.tr ((r.num, (r.den : Int)) : Int × Int), fun h => ToTr.ok (α := Int × Int) h⟩
theorem loL_map {α : Type} [Rep α] [ToTr α] {n : Nat} : ∀ {l : List α}, (∀ x ∈ l, Tr.lo n (ToTr.tr x)) → Tr.loL n (l.map ToTr.tr)
  | [], _ => trivial
  | x :: l, h => ⟨h x List.mem_cons_self, loL_map fun y hy => h y (List.mem_cons_of_mem _ hy)⟩
theorem lo_rat {r : Rat} : Tr.lo 1 (ToTr.tr r) := ⟨by show 2 < 100000; decide, trivial, trivial, trivial⟩
theorem lo_list {α : Type} [Rep α] [ToTr α] {n : Nat} {l : List α} (hl : l.length < 100000) (h : ∀ x ∈ l, Tr.lo n (ToTr.tr x)) : Tr.lo (n + 1) (ToTr.tr l) := ⟨by rw [List.length_map]; exact hl, loL_map h⟩
theorem lo_buy {b : Buy} (h1 : b.1.length < 100000) (h2 : b.2.length < 100000) : Tr.lo 3 (ToTr.tr b) := ⟨by show 2 < 100000; decide, lo_list h1 fun _ _ => lo_rat, lo_list h2 fun _ _ => lo_rat, trivial⟩
theorem lo_link {n : Nat} {l : Link} : Tr.lo (n + 1) (ToTr.tr l) := ⟨by show 3 < 100000; decide, by cases n <;> trivial, by cases n <;> trivial, by cases n <;> trivial, trivial⟩
section
variable {K : KF} {G : GEnv} {ta tb : TE} {l : List Tr}
theorem EvD.tr {α : Type} [Rep α] [ToTr α] {x : α} (h : EvD K G ta x) : EvD K G ta (ToTr.tr x) := h.cast ToTr.ok
theorem ty_trl : TyD K (Tr.lst l) "list" := fun Hs H v e r => by
  obtain ⟨a, vs, rfl, h, _⟩ := r
  exact .base (.lst (e _ _ h))
theorem ty_trt : TyD K (Tr.tup l) "tuple" := fun Hs H v e r => by
  obtain ⟨a, vs, rfl, h, _⟩ := r
  exact tyx_tup (same_t e h)
theorem seq_len {t : Tr} (hs : t = .lst l ∨ t = .tup l) (ha : EvD K G ta t) : EvD K G (tCB (fun xs H Q => ∃ p ys, xs = [.ref p] ∧ (SqL K H p ys ∨ SqT K H p ys) ∧ Q (.int ys.length) H) (tCons ta tNil)) l.length := fun H0 Hs H σ E e Q q =>
  ha H0 Hs H σ E e _ fun u Hs1 H1 g r => by
    rcases hs with rfl | rfl
    · obtain ⟨a, vs, rfl, h, hr⟩ := r
      exact ⟨a, vs, rfl, .inl (.inl (.inl (g.sub _ _ h))), q _ Hs1 H1 g (by show V.int _ = V.int _; rw [(repL_all hr).len])⟩
    · obtain ⟨a, vs, rfl, h, hr⟩ := r
      exact ⟨a, vs, rfl, .inr (same_t g.sub h), q _ Hs1 H1 g (by show V.int _ = V.int _; rw [(repL_all hr).len])⟩
theorem seq_ix {t : Tr} {i : Nat} (hs : t = .lst l ∨ t = .tup l) (ha : EvD K G ta t) (hb : EvD K G tb i) (hi : i < l.length) : EvD K G (tOp (rIx K) ta tb) (l.getD i default) := fun H0 Hs H σ E e Q q =>
  ha H0 Hs H σ E e _ fun u Hs1 H1 g1 r => hb H0 Hs1 H1 σ E (e.grow g1) _ fun w Hs2 H2 g2 r2 => by
    cases (show w = .int (i : Int) from r2)
    have e1 : l.getD i default = l[i] := by rw [List.getD_eq_getElem?_getD, List.getElem?_eq_getElem hi]; rfl
    rcases hs with rfl | rfl
    · obtain ⟨a, vs, rfl, h, hr⟩ := r
      obtain ⟨v, hv, rv⟩ := (repL_all hr).get (List.getElem?_eq_getElem hi)
      exact .inl ⟨a, vs, i, v, rfl, rfl, .inl (.inl (g2.h _ _ (g1.sub _ _ h))), atI_nat hv, q v Hs2 H2 (g1.trans g2) (by rw [e1]; exact Rep.mono g2.s rv)⟩
    · obtain ⟨a, vs, rfl, h, hr⟩ := r
      obtain ⟨v, hv, rv⟩ := (repL_all hr).get (List.getElem?_eq_getElem hi)
      exact .inr (.inl ⟨a, vs, i, v, rfl, rfl, same_t g2.h (same_t g1.sub h), atI_nat hv, q v Hs2 H2 (g1.trans g2) (by rw [e1]; exact Rep.mono g2.s rv)⟩)
theorem evd_eqB {a b : Bool} (ha : EvD K G ta a) (hb : EvD K G tb b) : EvD K G (tOp rEq ta tb) (decide (a = b)) := evd_op ha hb fun Hs H u w e h1 h2 Q q => by
  cases (show u = .bl a from h1)
  cases (show w = .bl b from h2)
  exact ⟨rfl, q _ Hs H (Grow.refl e) (by cases a <;> cases b <;> rfl)⟩
theorem evd_neB {a b : Bool} (ha : EvD K G ta a) (hb : EvD K G tb b) : EvD K G (tOp rNe ta tb) (!decide (a = b)) := evd_op ha hb fun Hs H u w e h1 h2 Q q => by
  cases (show u = .bl a from h1)
  cases (show w = .bl b from h2)
  exact ⟨rfl, q _ Hs H (Grow.refl e) (by cases a <;> cases b <;> rfl)⟩
end
end BB

/-! the same values -/
namespace BB
open PySem PySem.Spec L2
variable {P : Program} {w : World} {K : KF} {mg : Str → Option Value} {base : Heap} {aZ aO : Addr}
abbrev s__law_same : Stmt := topS 60
abbrev N__law_same : List Str := ["_law_actual", "_law_due", "_law_k"]
theorem sc__law_same : FnScope N__law_same ["_law_actual", "_law_due"] (defScope s__law_same) := ⟨rfl, rfl, rfl, by decide +kernel, rfl, by decide +kernel, by decide +kernel⟩

abbrev s__law_unchanged : Stmt := topS 61
abbrev N__law_unchanged : List Str := ["_law_data_here", "_law_goods", "_law_buys", "_law_links"]
theorem sc__law_unchanged : FnScope N__law_unchanged ["_law_data_here", "_law_goods", "_law_buys", "_law_links"] (defScope s__law_unchanged) := ⟨rfl, rfl, rfl, by decide +kernel, rfl, by decide +kernel, by decide +kernel⟩

def LoN : Nat → Tr → Prop
  | 0, _ => False
  | n + 1, t => Tr.lo n t
abbrev sp_sameN (h : Nat) := sp2 (fun (a b : Tr) => a = b ∧ LoN h a) (fun _ _ => true)
theorem tr_cases {h : Nat} {a : Tr} (hl : Tr.lo h a) : (∃ i, a = .int i) ∨ (∃ b, a = .bl b) ∨ ∃ (l : List Tr) (isL : Bool), (a = .lst l ∨ a = .tup l) ∧ (∀ {G : GEnv} {i : Nat}, G[i]? = some (pureS a) → EvD K G (tCB (rIsi K) (tCons (tVar i) (tCons (tC (.ty "list")) tNil))) isL) ∧
    (∀ {G : GEnv} {i : Nat}, G[i]? = some (pureS a) → EvD K G (tCB (rIsi K) (tCons (tVar i) (tCons (tC (.ty "tuple")) tNil))) (!isL)) ∧ l.length < 100000 ∧ (∀ k, k < l.length → LoN h (l.getD k default)) := by
  cases a with
  | int i => exact .inl ⟨i, rfl⟩
  | bl b => exact .inr (.inl ⟨b, rfl⟩)
  | lst l =>
    cases h with
    | zero => exact hl.elim
    | succ h => exact .inr (.inr ⟨l, true, .inl rfl, fun hG => evd_isi (b := true) (evd_var hG) ty_trl rfl, fun hG => evd_isi (b := false) (evd_var hG) ty_trl rfl, hl.1, fun k hk => lo_at hl.2 hk⟩)
  | tup l =>
    cases h with
    | zero => exact hl.elim
    | succ h => exact .inr (.inr ⟨l, false, .inr rfl, fun hG => evd_isi (b := false) (evd_var hG) ty_trt rfl, fun hG => evd_isi (b := true) (evd_var hG) ty_trt rfl, hl.1, fun k hk => lo_at hl.2 hk⟩)
theorem step__law_same {h : Nat} {f : Addr} {fd : FuncData} (F : Fun K "_law_same" "_law_same" s__law_same f fd) (B : Bi P mg base) (C_law_is_integer : Cal P w K mg base 40 "_law_is_integer" ["_law_x"] (sp__law_is_integer K)) (C_law_same : Cal P w K mg base (40 + h) "_law_same" ["_law_actual", "_law_due"] (sp_sameN h K)) : FnOk P w K mg base CX0 (40 + h + 1) f fd ["_law_actual", "_law_due"] (sp_sameN (h + 1) K) :=
  fn_st F sc__law_same (fun _ => rfl) fun cdv A' outer s H E hr => ⟨_,
(pss_cons (ps_if (PW.pt (pw_or (pt_val (pe_callB call_isi (by rfl) B.isinstance (by decide +kernel) (pa_cons (pv 1) (pa_cons (pe_bltn (v := .ty "list") (by rfl) B.list (by decide +kernel) rfl) pa_nil)))) (pw_or1 (pt_val (pe_callB call_isi (by rfl) B.isinstance (by decide +kernel) (pa_cons (pv 1) (pa_cons (pe_bltn (v := .ty "tuple") (by rfl) B.tuple (by decide +kernel) rfl) pa_nil)))))))
(pss_cons (ps_if (PW.pt (pw_or (pt_cmpR op_ne (pe_callB call_isi (by rfl) B.isinstance (by decide +kernel) (pa_cons (pv 0) (pa_cons (pe_bltn (v := .ty "list") (by rfl) B.list (by decide +kernel) rfl) pa_nil))) (pe_callB call_isi (by rfl) B.isinstance (by decide +kernel) (pa_cons (pv 1) (pa_cons (pe_bltn (v := .ty "list") (by rfl) B.list (by decide +kernel) rfl) pa_nil))) (nomark _)) (pw_or1 (pt_cmpR op_ne (pe_callB call_isi (by rfl) B.isinstance (by decide +kernel) (pa_cons (pv 0) (pa_cons (pe_bltn (v := .ty "tuple") (by rfl) B.tuple (by decide +kernel) rfl) pa_nil))) (pe_callB call_isi (by rfl) B.isinstance (by decide +kernel) (pa_cons (pv 1) (pa_cons (pe_bltn (v := .ty "tuple") (by rfl) B.tuple (by decide +kernel) rfl) pa_nil))) (nomark _)))))
(pss_one (ps_ret pe_bl))
pss_nil)
(pss_cons (ps_if (pt_cmpR op_ne (pe_callB call_len_seq (by rfl) B.len PySem.boot_len (pa_cons (pv 0) pa_nil)) (pe_callB call_len_seq (by rfl) B.len PySem.boot_len (pa_cons (pv 1) pa_nil)) (nomark _))
(pss_one (ps_ret pe_bl))
pss_nil)
(pss_cons (ps_for PassesOwn.never rfl (pi_range1 (by rfl) B.range (pa_cons (pe_callB call_len_seq (by rfl) B.len PySem.boot_len (pa_cons (pv 1) pa_nil)) pa_nil)) (pg_name (i := 2) sc__law_same.nd rfl (.inl rfl))
(pss_one (ps_if (pt_not (pt_val (pe_cal C_law_same (hr.mono (by omega)) (by rfl) (pa_cons (pe_ix ix_seq (pv 0) (pv 2) (fun _ _ => rfl)) (pa_cons (pe_ix ix_seq (pv 1) (pv 2) (fun _ _ => rfl)) pa_nil)))))
(pss_one (ps_ret pe_bl))
pss_nil)))
(pss_one (ps_ret pe_bl)))))
pss_nil)
(pss_cons (ps_if (pt_val (pe_callB call_isi (by rfl) B.isinstance (by decide +kernel) (pa_cons (pv 1) (pa_cons (pe_bltn (v := .ty "bool") (by rfl) B.bool (by decide +kernel) rfl) pa_nil))))
(pss_one (ps_ret (pe_and (pe_callB call_isi (by rfl) B.isinstance (by decide +kernel) (pa_cons (pv 0) (pa_cons (pe_bltn (v := .ty "bool") (by rfl) B.bool (by decide +kernel) rfl) pa_nil))) (pe_one (pe_cmpR op_eq (pv 0) (pv 1) (nomark _))))))
pss_nil)
(pss_cons (ps_if (pt_val (pe_callB call_isi (by rfl) B.isinstance (by decide +kernel) (pa_cons (pv 1) (pa_cons (pe_bltn (v := .ty "int") (by rfl) B.int (by decide +kernel) rfl) pa_nil))))
(pss_one (ps_ret (pe_and (pe_cal C_law_is_integer (hr.mono (by omega)) (by rfl) (pa_cons (pv 0) pa_nil)) (pe_one (pe_cmpR op_eq (pv 0) (pv 1) (nomark _))))))
pss_nil)
(pss_one (ps_ret (pe_and (pe_callB call_isi (by rfl) B.isinstance (by decide +kernel) (pa_cons (pv 0) (pa_cons (pe_bltn (v := .ty "str") (by rfl) B.str (by decide +kernel) rfl) pa_nil))) (pe_one (pe_cmpR op_eq (pv 0) (pv 1) (nomark _))))))))), fun ⟨a, b⟩ hp => by
    show StD K [pureS a, pureS b, none] _ _
    obtain ⟨rfl, hl⟩ : a = b ∧ Tr.lo h a := hp
    rcases tr_cases (K := K) hl with ⟨i, rfl⟩ | ⟨c, rfl⟩ | ⟨l, isL, hs, i1, i2, hn, hk⟩
    · show StD K [pureS i, pureS i, none] _ _
      refine st_seq (st_if (b := false) (evb_or (a := false) (b := false) (evb_B (evd_isi (b := false) (evd_var (i := 1) (x := i) rfl) ty_int rfl)) fun z => (evb_B (evd_isi (b := false) (evd_var (i := 1) (x := i) rfl) ty_int rfl))) (fun h => nomatch h) (fun h => st_next ?_))
      refine st_seq (st_if (b := false) (evb_B (evd_isi (b := false) (evd_var (i := 1) (x := i) rfl) ty_int rfl)) (fun h => nomatch h) (fun h => st_next ?_))
      refine st_seq (st_if (b := true) (evb_B (evd_isi (b := true) (evd_var (i := 1) (x := i) rfl) ty_int rfl)) (fun h => ?_) (fun h => nomatch h))
      exact st_ret (evd_andV (a := true) (evd_call1 (evd_var (i := 0) (x := i) rfl) trivial) fun z => (evd_eqI (evd_var (i := 0) (x := i) rfl) (evd_var (i := 1) (x := i) rfl))) rfl (by simp)
    · show StD K [pureS c, pureS c, none] _ _
      refine st_seq (st_if (b := false) (evb_or (a := false) (b := false) (evb_B (evd_isi (b := false) (evd_var (i := 1) (x := c) rfl) ty_bool rfl)) fun z => (evb_B (evd_isi (b := false) (evd_var (i := 1) (x := c) rfl) ty_bool rfl))) (fun h => nomatch h) (fun h => st_next ?_))
      refine st_seq (st_if (b := true) (evb_B (evd_isi (b := true) (evd_var (i := 1) (x := c) rfl) ty_bool rfl)) (fun h => ?_) (fun h => nomatch h))
      exact st_ret (evd_andV (a := true) (evd_isi (b := true) (evd_var (i := 0) (x := c) rfl) ty_bool rfl) fun z => (evd_eqB (evd_var (i := 0) (x := c) rfl) (evd_var (i := 1) (x := c) rfl))) rfl (by simp)
    · refine st_seq (st_if (b := true) (EvB.to (evb_or (evb_B (i1 (i := 1) rfl)) fun z => (evb_B (i2 (i := 1) rfl))) (by cases isL <;> rfl)) (fun h => ?_) (fun h => nomatch h))
      refine st_seq (st_if (b := false) (EvB.to (evb_or (evb_test (evd_neB (i1 (i := 0) rfl) (i1 (i := 1) rfl))) fun z => (evb_test (evd_neB (i2 (i := 0) rfl) (i2 (i := 1) rfl)))) (by cases isL <;> rfl)) (fun h => nomatch h) (fun h => st_next ?_))
      refine st_seq (st_if (b := false) (evb_test ((evd_neN (seq_len hs (evd_var (i := 0) (x := a) rfl)) (seq_len hs (evd_var (i := 1) (x := a) rfl))).to (by simp))) (fun h => nomatch h) (fun h => st_next ?_))
      refine st_seq (st_forR (n := l.length) (fun k G' => ∃ s2, G' = [pureS a, pureS a, s2]) (seq_len hs (evd_var (i := 1) (x := a) rfl)) (by omega) ⟨_, rfl⟩ (fun k G' hk' hI => ?_) fun G' hI => ?_)
      · obtain ⟨s2, rfl⟩ := hI
        exact st_if (b := false) (evb_not (a := true) (evb_B (evd_call2 (seq_ix hs (evd_var (i := 0) (x := a) rfl) (evd_var (i := 2) (x := k) rfl) hk') (seq_ix hs (evd_var (i := 1) (x := a) rfl) (evd_var (i := 2) (x := k) rfl) hk') ⟨rfl, hk k hk'⟩))) (fun h => nomatch h) (fun h => st_next ⟨_, rfl⟩)
      · obtain ⟨s2, rfl⟩ := hI
        exact st_ret evd_bl rfl rfl
⟩
theorem ok__law_same {f : Addr} {fd : FuncData} (F : Fun K "_law_same" "_law_same" s__law_same f fd) (B : Bi P mg base) (C_law_is_integer : Cal P w K mg base 40 "_law_is_integer" ["_law_x"] (sp__law_is_integer K)) (hm : mg "_law_same" = some (.ref f)) (hk : PySem.W.keepIn K (.ref f) = true) (hb : Binds K fd ["_law_actual", "_law_due"] []) :
    ∀ h : Nat, FnOk P w K mg base CX0 (40 + h) f fd ["_law_actual", "_law_due"] (sp_sameN h K)
  | 0 => ⟨fun vs H Q E h => by obtain ⟨_, a, _, _, hp, _⟩ := h; exact hp.2.elim, fun A outer s H args us vs Q E hr he hb hv hs => by obtain ⟨_, a, _, _, hp, _⟩ := hs; exact hp.2.elim⟩
  | h + 1 => step__law_same F B C_law_is_integer ⟨f, fd, ok__law_same F B C_law_is_integer hm hk hb h, hm, hk, hb⟩
abbrev sp__law_same := sp2 (fun (a b : Tr) => a = b ∧ LoN 5 a) (fun _ _ => true)
theorem preSame {a : Tr} (h : Tr.lo 4 a) : a = a ∧ LoN 5 a := ⟨rfl, h⟩
structure LUn (a : DataM × Nat × List Buy × List Link) : Prop where
  g : a.1.goods = a.2.1
  b : a.1.buys = a.2.2.1
  l : a.1.links = a.2.2.2
  lb : a.1.buys.length < 100000
  ll : a.1.links.length < 100000
  each : ∀ b ∈ a.1.buys, b.1.length < 100000 ∧ b.2.length < 100000
abbrev sp__law_unchanged := spR (A := DataM × Nat × List Buy × List Link) (fun a => [dyn a.1, dyn a.2.1, dyn a.2.2.1, dyn a.2.2.2]) LUn (fun _ => RetV true)
theorem ok__law_unchanged {f : Addr} {fd : FuncData} (F : Fun K "_law_unchanged" "_law_unchanged" s__law_unchanged f fd) (B : Bi P mg base) (C_law_same : Cal P w K mg base 60 "_law_same" ["_law_actual", "_law_due"] (sp__law_same K)) : FnOk P w K mg base CX0 61 f fd ["_law_data_here", "_law_goods", "_law_buys", "_law_links"] (sp__law_unchanged K) :=
  fn_st F sc__law_unchanged (fun _ => rfl) fun cdv A' outer s H E hr => ⟨_,
(pss_cons (ps_if (PW.pt (pw_or (pt_not (pt_val (pe_cal C_law_same (hr.mono (by decide)) (by rfl) (pa_cons (pe_fld (pv 0) rfl) (pa_cons (pv 1) pa_nil))))) (pw_or1 (pt_not (pt_val (pe_cal C_law_same (hr.mono (by decide)) (by rfl) (pa_cons (pe_fld (pv 0) rfl) (pa_cons (pv 3) pa_nil))))))))
(pss_one (ps_ret pe_bl))
pss_nil)
(pss_one (ps_ret (pe_cal C_law_same (hr.mono (by decide)) (by rfl) (pa_cons (pe_fld (pv 0) rfl) (pa_cons (pv 2) pa_nil)))))), 
fun ⟨d, g, bs, ls⟩ hp => by
    show StD K [pureS d, pureS g, pureS bs, pureS ls] _ _
    obtain ⟨e1, e2, e3, h1, h2, h3⟩ := hp
    replace e1 : d.goods = g := e1
    replace e2 : d.buys = bs := e2
    replace e3 : d.links = ls := e3
    replace h1 : d.buys.length < 100000 := h1
    replace h2 : d.links.length < 100000 := h2
    replace h3 : ∀ b ∈ d.buys, b.1.length < 100000 ∧ b.2.length < 100000 := h3
    subst e1 e2 e3
    refine st_seq (st_if (b := false) (evb_or (a := false) (b := false) (evb_not (a := true) (evb_B (evd_call2 (EvD.tr (evd_goods (evd_var (x := d) rfl))) (EvD.tr (evd_var (x := d.goods) rfl)) (preSame trivial)))) fun z => (evb_not (a := true) (evb_B (evd_call2 (EvD.tr (evd_links (evd_var (x := d) rfl))) (EvD.tr (evd_var (x := d.links) rfl)) (preSame (lo_list (n := 3) h2 fun _ _ => lo_link)))))) (fun h => nomatch h) (fun h => st_next ?_))
    exact st_ret (evd_call2 (EvD.tr (evd_buys (evd_var (x := d) rfl))) (EvD.tr (evd_var (x := d.buys) rfl)) (preSame (lo_list (n := 3) h1 fun b hb => lo_buy (h3 b hb).1 (h3 b hb).2))) rfl rfl
⟩
end BB

/-! no accepted taste beside a ring -/
namespace BB
open PySem PySem.Spec L2
/-! ### weak duality -/
section
variable {bs : List Buy} {ls : List Link} {g : Nat} {ns ws : List Rat}
theorem acc_parts (h : accM bs ls ns ws = true) : (∀ i, i < bs.length → 0 < ws.getD i default) ∧ (∀ i j, i < bs.length → j < bs.length → ns.getD j default ≤ ns.getD i default + ws.getD i default * gapF bs i j) ∧ (∀ l ∈ ls, ns.getD l.b default ≤ ns.getD l.a default ∧ (l.c = true → ns.getD l.b default < ns.getD l.a default)) := by
  unfold accM at h
  rw [Bool.and_eq_true, allN_iff] at h
  obtain ⟨h1, h2⟩ := h
  unfold holdM at h2
  rw [List.all_eq_true] at h2
  have part : ∀ i, i < bs.length → ¬ ws.getD i default ≤ 0 ∧ ∀ j, j < bs.length → ¬ planeM bs (ns, ws) i (bs.getD j default).2 < ns.getD j default := fun i hi => by
    have := h1 i hi
    unfold tastePart at this
    rw [Bool.and_eq_true, allN_iff] at this
    simpa using this
  refine ⟨fun i hi => Rat.not_le.mp (part i hi).1, fun i j hi hj => Rat.not_lt.mp ((part i hi).2 j hj), fun l hl => ?_⟩
  have := h2 l hl
  unfold linkM at this
  simp only [Bool.not_eq_true', Bool.or_eq_false_iff, decide_eq_false_iff_not, Bool.and_eq_false_imp] at this
  obtain ⟨g1, g2⟩ := this
  have g1 := Rat.not_lt.mp g1
  exact ⟨g1, fun hc => Rat.lt_of_le_of_ne g1 fun e => g2 hc e.symm⟩
theorem acc_step (h : accM bs ls ns ws = true) {i j : Nat} (hi : i < bs.length) (hj : j < bs.length) {o : Bool} (ho : stepM bs ls i j = some o) : ns.getD j default ≤ ns.getD i default ∧ (o = true → ns.getD j default < ns.getD i default) := by
  obtain ⟨h1, h2, h3⟩ := acc_parts h
  have key : ∀ {l : List Link} {r : Option Bool}, (∀ x ∈ l, x ∈ ls) → (∀ o, r = some o → ns.getD j default ≤ ns.getD i default ∧ (o = true → ns.getD j default < ns.getD i default)) →
      ∀ o, l.foldl (linkStep i j) r = some o → ns.getD j default ≤ ns.getD i default ∧ (o = true → ns.getD j default < ns.getD i default) := fun {l} => by
    induction l with
    | nil => exact fun _ hr => hr
    | cons x l ih =>
      intro r hl hr
      refine ih (fun y hy => hl y (List.mem_cons_of_mem _ hy)) fun o ho => ?_
      unfold linkStep at ho
      split at ho
      · rename_i hc
        simp only [Bool.and_eq_true, decide_eq_true_eq] at hc
        obtain ⟨ha, hb⟩ := hc
        obtain ⟨g1, g2⟩ := h3 x (hl x List.mem_cons_self)
        rw [ha, hb] at g1 g2
        refine ⟨g1, fun z => ?_⟩
        rw [z] at ho
        have ho := Option.some.inj ho
        rcases Bool.or_eq_true _ _ ▸ ho with y | y
        · exact (hr true (of_decide_eq_true y)).2 rfl
        · exact g2 y
      · exact hr o ho
  refine key (fun _ hx => hx) (fun o ho => ?_) o ho
  unfold costStep at ho
  split at ho
  · cases ho
  · split at ho
    · rename_i hne hle
      have hg : gapF bs i j ≤ 0 := by
        show coM bs i (bs.getD j default).2 - spM bs i ≤ 0
        grind
      have hp := h2 i j hi hj
      have hw := h1 i hi
      have hm : ws.getD i default * gapF bs i j ≤ 0 := by
        have := Rat.mul_nonneg (Rat.le_of_lt hw) (show 0 ≤ - gapF bs i j by grind)
        grind
      refine ⟨by grind, fun z => ?_⟩
      rw [z] at ho
      have hlt := of_decide_eq_true (Option.some.inj ho)
      have hg' : gapF bs i j < 0 := by
        show coM bs i (bs.getD j default).2 - spM bs i < 0
        grind
      have hm' : 0 < ws.getD i default * (- gapF bs i j) := Rat.mul_pos hw (by grind)
      grind
    · cases ho
theorem acc_reach (h : accM bs ls ns ws = true) {i k : Nat} {s : Bool} (hi : i < bs.length) (hr : Reach (tableM bs ls) bs.length i k s) : ns.getD k default ≤ ns.getD i default ∧ (s = true → ns.getD k default < ns.getD i default) := by
  induction hr with
  | refl => exact ⟨Rat.le_refl, fun z => nomatch z⟩
  | @step j k s o hr hk ho ih =>
    have hj := hr.lt hi
    rw [tg_table hj hk] at ho
    obtain ⟨g1, g2⟩ := acc_step h hj hk ho
    obtain ⟨i1, i2⟩ := ih
    refine ⟨Rat.le_trans g1 i1, fun z => ?_⟩
    rcases Bool.or_eq_true _ _ ▸ z with y | y
    · have := i2 y
      grind
    · have := g2 y
      grind
theorem acc_noring (h : accM bs ls ns ws = true) : NoRing bs ls := fun i hi hr => absurd ((acc_reach h hi hr).2 rfl) (Rat.lt_irrefl)
theorem acc_falls (h : accM bs ls ns ws = true) : fallsM bs ls ns = true := by
  unfold fallsM
  refine allN_iff.mpr fun i hi => allN_iff.mpr fun j hj => ?_
  unfold dropM
  cases z : stepM bs ls i j with
  | none => rfl
  | some o =>
    obtain ⟨g1, g2⟩ := acc_step h hi hj z
    have n1 : ¬ ns.getD i default < ns.getD j default := Rat.not_lt.mpr g1
    cases o with
    | false =>
      rw [decide_eq_false n1]
      rfl
    | true =>
      have := g2 rfl
      have n2 : ¬ ns.getD i default = ns.getD j default := fun e => by
        rw [e] at this
        exact absurd this Rat.lt_irrefl
      rw [decide_eq_false n1, decide_eq_false n2]
      rfl
end
/-! ### whether the closure has a ring -/
noncomputable def ringM (bs : List Buy) (ls : List Link) : Bool := decide (0 < (((List.range bs.length).filter fun k => decide (tg (leadsM (tableM bs ls) bs.length) k k = some true)).map fun k => k).length)
theorem ring_iff {bs : List Buy} {ls : List Link} : ringM bs ls = false ↔ NoRing bs ls := by
  unfold ringM
  rw [decide_eq_false_iff_not, List.length_map, Nat.not_lt, Nat.le_zero, List.length_eq_zero_iff, List.filter_eq_nil_iff]
  constructor
  · intro h i hi hr
    refine h i (List.mem_range.mpr hi) ?_
    rw [decide_eq_true_iff, tg_leads hi hi]
    exact lead_true.mpr hr
  · intro h i hi hr
    have hi := List.mem_range.mp hi
    rw [decide_eq_true_iff, tg_leads hi hi] at hr
    exact h i hi (lead_true.mp hr)
theorem chk_ring {d : DataM} {x : Found} (h : Chk d x) : kindM x = (["taste", "ring"] : List Str).getD (if ringM d.buys d.links then 1 else 0) default ∧ (ringM d.buys d.links = true → ∃ c, x = .ring c) ∧ (ringM d.buys d.links = false → ∃ t, x = .taste t) := by
  cases x with
  | ring c =>
    obtain ⟨⟨i, hi, hc⟩, _⟩ := h
    have hr : ringM d.buys d.links = true := by
      cases z : ringM d.buys d.links with
      | true => rfl
      | false => exact absurd hc.reach (ring_iff.mp z i hi)
    rw [hr]
    exact ⟨rfl, fun _ => ⟨c, rfl⟩, fun z => nomatch z⟩
  | taste t =>
    have hr : ringM d.buys d.links = false := ring_iff.mpr h.1
    rw [hr]
    exact ⟨rfl, fun z => (nomatch z), fun _ => ⟨t, rfl⟩⟩
theorem chk_ring2 {g : Nat} {bs : List Buy} {ls : List Link} {x : Found} (h : Chk (DataM.mk g bs ls) x) : kindM x = (["taste", "ring"] : List Str).getD (if ringM bs ls then 1 else 0) default ∧ (ringM bs ls = true → ∃ c, x = .ring c) ∧ (ringM bs ls = false → ∃ t, x = .taste t) := chk_ring (d := DataM.mk g bs ls) h
end BB

/-! the law -/
namespace BB
open PySem PySem.Spec L2
variable {P : Program} {w : World} {K : KF} {mg : Str → Option Value} {base : Heap} {aZ aO : Addr}
abbrev s_law : Stmt := topS 66
abbrev N_law : List Str := ["_law_script", "_law_goods", "_law_buys", "_law_links", "_law_data_here", "_law_steps_here", "_law_table", "_law_ring", "_law_tastes_here", "_law_found", "_law_numbers_here", "_law_weights_here", "_law_accepted", "_law_k"]
theorem sc_law : FnScope N_law ["_law_script"] (defScope s_law) := ⟨rfl, rfl, rfl, by decide +kernel, rfl, by decide +kernel, by decide +kernel⟩

abbrev sp_law := sp1 SmS (fun _ => true)
theorem ok_law {f : Addr} {fd : FuncData} (F : Fun K "law" "law" s_law f fd) (B : Bi P mg base) (Cjudge_taste : Cal P w K mg base 45 "judge_taste" ["data", "taste"] (sp_judge_taste K)) (Cjudge_chain : Cal P w K mg base 45 "judge_chain" ["data", "chain"] (sp_judge_chain K)) (Ccheck : Cal P w K mg base 47 "check" ["data"] (sp_check K)) (C_law_data : Cal P w K mg base 43 "_law_data" ["_law_script", "_law_place", "_law_most", "_law_linked"] (sp__law_data K)) (C_law_made : Cal P w K mg base 51 "_law_made" ["_law_goods", "_law_buys", "_law_links"] (sp__law_made K)) (C_law_steps : Cal P w K mg base 43 "_law_steps" ["_law_buys", "_law_links"] (sp__law_steps K)) (C_law_closure : Cal P w K mg base 40 "_law_closure" ["_law_steps_here"] (sp__law_closure K)) (C_law_kind : Cal P w K mg base 45 "_law_kind" ["_law_buys", "_law_links", "_law_found"] (sp__law_kind K)) (C_law_unchanged : Cal P w K mg base 61 "_law_unchanged" ["_law_data_here", "_law_goods", "_law_buys", "_law_links"] (sp__law_unchanged K)) (C_law_falls_along : Cal P w K mg base 41 "_law_falls_along" ["_law_steps_here", "_law_numbers_here"] (sp__law_falls_along K)) (C_law_tastes : Cal P w K mg base 53 "_law_tastes" ["_law_script", "_law_goods", "_law_buys", "_law_links"] (sp__law_tastes K)) : FnOk P w K mg base CX0 62 f fd ["_law_script"] (sp_law K) :=
  fn_st F sc_law (fun _ => rfl) fun cdv A' outer s H E hr => ⟨_,
(pss_cons (ps_asg (pe_cal C_law_data (hr.mono (by decide)) (by rfl) (pa_cons (pv 0) (pa_cons pe_int (pa_cons pe_int (pa_cons pe_int pa_nil))))) (pg_tup rfl (pgs_cons (pg_name (i := 1) sc_law.nd rfl (.inl rfl)) (pgs_cons (pg_name (i := 2) sc_law.nd rfl (.inl rfl)) (pgs_cons (pg_name (i := 3) sc_law.nd rfl (.inl rfl)) pgs_nil)))))
(pss_cons (ps_set (i := 4) sc_law.nd rfl (.inl rfl) (pe_cal C_law_made (hr.mono (by decide)) (by rfl) (pa_cons (pv 1) (pa_cons (pv 2) (pa_cons (pv 3) pa_nil)))))
(pss_cons (ps_set (i := 5) sc_law.nd rfl (.inl rfl) (pe_cal C_law_steps (hr.mono (by decide)) (by rfl) (pa_cons (pv 2) (pa_cons (pv 3) pa_nil))))
(pss_cons (ps_set (i := 6) sc_law.nd rfl (.inr rfl) (pe_cal C_law_closure (hr.mono (by decide)) (by rfl) (pa_cons (pv 5) pa_nil)))
(pss_cons (ps_set (i := 7) sc_law.nd rfl (.inl rfl) (pe_cmpR op_gt (pe_callB call_len_seq (by rfl) B.len PySem.boot_len (pa_cons (pe_lc (own := [("_law_k", 13)]) (g := gName 13) rfl sc_law.nd (pi_range1 (by rfl) B.range (pa_cons (pe_callB call_len_seq (by rfl) B.len PySem.boot_len (pa_cons (pv 2) pa_nil)) pa_nil)) (blkOk_by (N := N_law) (sc := defScope s_law) (by decide +kernel)) (fun _ _ _ _ _ => (pg_name (i := 13) sc_law.nd rfl (.inl rfl))) (fun _ _ _ _ _ => (pts_one (pt_cmpR op_isT (pe_ix ix_list (pe_ix ix_list (pv 6) (pv 13) (fun _ _ => rfl)) (pv 13) (fun _ _ => rfl)) pe_bl (nomark _)))) (fun _ _ _ _ _ => (pv 13))) pa_nil)) pe_int (nomark _)))
(pss_cons (ps_set (i := 8) sc_law.nd rfl (.inl rfl) (pe_cal C_law_tastes (hr.mono (by decide)) (by rfl) (pa_cons (pv 0) (pa_cons (pv 1) (pa_cons (pv 2) (pa_cons (pv 3) pa_nil))))))
(pss_cons (ps_set (i := 9) sc_law.nd rfl (.inl rfl) (pe_cal Ccheck (hr.mono (by decide)) (by rfl) (pa_cons (pv 4) pa_nil)))
(pss_cons (ps_if (pt_cmpR op_ne (pe_cal C_law_kind (hr.mono (by decide)) (by rfl) (pa_cons (pv 2) (pa_cons (pv 3) (pa_cons (pv 9) pa_nil)))) (pe_ix ix_list (pe_lst (pa_cons pe_str (pa_cons pe_str pa_nil))) (pe_callTy call_int1 (by rfl) B.int (by decide +kernel) (pa_cons (pv 7) pa_nil)) (fun _ _ => rfl)) (nomark _))
(pss_one (ps_ret pe_bl))
pss_nil)
(pss_cons (ps_if (PW.pt (pw_and (pt_val (pv 7)) (pw_and1 (pt_cmpR op_notT (pe_cal Cjudge_chain (hr.mono (by decide)) (by rfl) (pa_cons (pv 4) (pa_cons (pe_callTy call_list_of (by rfl) B.list boot_ls (pa_cons (pe_ix ix_tup (pv 9) pe_int (fun _ _ => rfl)) pa_nil)) pa_nil))) pe_bl (nomark _)))))
(pss_one (ps_ret pe_bl))
pss_nil)
(pss_cons (ps_if (pt_not (pt_val (pv 7)))
(pss_cons (ps_if (pt_cmpR op_notT (pe_cal Cjudge_taste (hr.mono (by decide)) (by rfl) (pa_cons (pv 4) (pa_cons (pe_tup (pa_cons (pe_callTy call_list_of (by rfl) B.list boot_ls (pa_cons (pe_ix ix_tup (pe_ix ix_tup (pv 9) pe_int (fun _ _ => rfl)) pe_int (fun _ _ => rfl)) pa_nil)) (pa_cons (pe_callTy call_list_of (by rfl) B.list boot_ls (pa_cons (pe_ix ix_tup (pe_ix ix_tup (pv 9) pe_int (fun _ _ => rfl)) pe_int (fun _ _ => rfl)) pa_nil)) pa_nil))) pa_nil))) pe_bl (nomark _))
(pss_one (ps_ret pe_bl))
pss_nil)
(pss_one (ps_expr (pe_bm PySem.F.plainAttrs_list PySem.F.slot_list_append PySem.F.type_list_append mt_append (pv 8) (pa_cons (pe_ix ix_tup (pv 9) pe_int (fun _ _ => rfl)) pa_nil)))))
pss_nil)
(pss_cons (ps_for PassesOwn.never rfl (pi_list (pv 8)) (pg_tup rfl (pgs_cons (pg_name (i := 10) sc_law.nd rfl (.inl rfl)) (pgs_cons (pg_name (i := 11) sc_law.nd rfl (.inl rfl)) pgs_nil)))
(pss_cons (ps_set (i := 12) sc_law.nd rfl (.inl rfl) (pe_cal Cjudge_taste (hr.mono (by decide)) (by rfl) (pa_cons (pv 4) (pa_cons (pe_tup (pa_cons (pe_callTy call_list_of (by rfl) B.list boot_ls (pa_cons (pv 10) pa_nil)) (pa_cons (pe_callTy call_list_of (by rfl) B.list boot_ls (pa_cons (pv 11) pa_nil)) pa_nil))) pa_nil))))
(pss_cons (ps_if (pt_not (pt_val (pe_callB call_isi (by rfl) B.isinstance (by decide +kernel) (pa_cons (pv 12) (pa_cons (pe_bltn (v := .ty "bool") (by rfl) B.bool (by decide +kernel) rfl) pa_nil)))))
(pss_one (ps_ret pe_bl))
pss_nil)
(pss_one (ps_if (PW.pt (pw_and (pt_val (pv 12)) (pw_and1 (PW.pt (pw_or (pt_val (pv 7)) (pw_or1 (pt_not (pt_val (pe_cal C_law_falls_along (hr.mono (by decide)) (by rfl) (pa_cons (pv 5) (pa_cons (pv 10) pa_nil)))))))))))
(pss_one (ps_ret pe_bl))
pss_nil)))))
(pss_one (ps_ret (pe_cal C_law_unchanged (hr.mono (by decide)) (by rfl) (pa_cons (pv 4) (pa_cons (pv 1) (pa_cons (pv 2) (pa_cons (pv 3) pa_nil)))))))))))))))))), 
fun sc hp => by
    show StD K [pureS sc, none, none, none, none, none, none, none, none, none, none, none, none, none] _ _
    have hs : SmS sc := hp
    refine st_seq (st_asgP (R := LD) (evp_call (sc, 0, 5, 4) (eva_cons (evd_var (x := sc) rfl) (eva_cons (evd_nat (i := 0)) (eva_cons (evd_nat (i := 5)) (eva_cons (evd_nat (i := 4)) eva_nil)))) ⟨hs, rfl, rfl, rfl⟩) fun x hx => ⟨_, gd_tup3 gd_name gd_name gd_name, ?_⟩)
    obtain ⟨g, bs, ls⟩ := x
    have g4 : g ≤ 4 := hx.g4
    have l5 : bs.length ≤ 5 := hx.len
    have ll : ls.length ≤ 4 := hx.ll
    have hb : ∀ b ∈ bs, BuyP g b := hx.buys
    have hL : LinksOk bs.length ls := hx.links
    have hB := buys_of g4 l5 hb
    have hmk : MakeOk (DataM.mk g bs ls) := ⟨⟨hB, hL⟩, l5⟩
    show StD K [pureS sc, pureS g, pureS bs, pureS ls, none, none, none, none, none, none, none, none, none, none] _ _
    refine st_seq (st_set (x := DataM.mk g bs ls) (evd_call3 (evd_var (x := g) rfl) (evd_var (x := bs) rfl) (evd_var (x := ls) rfl) ⟨by omega, by omega⟩) ?_)
    refine st_seq (st_set (x := tableM bs ls) (evd_call2 (evd_var (x := bs) rfl) (evd_var (x := ls) rfl) ⟨g, hB⟩) ?_)
    have htl := table_len bs ls
    have hsq := table_sq bs ls
    refine st_seq (st_set (x := leadsM (tableM bs ls) bs.length) ((evd_call1 (evd_var (x := tableM bs ls) rfl) ⟨hsq, by rw [htl]; omega⟩).to (by rw [htl])) ?_)
    refine st_seq (st_set (x := ringM bs ls) (evd_gtN (len_of (EvN.l (evn_lcR (fun k => decide (tg (leadsM (tableM bs ls) bs.length) k k = some true)) (fun k => k) (len_of (EvD.l (evd_var (x := bs) rfl))) (by omega) (by decide) (fun k hk => (evb_test (evd_isT (evd_ix (EvD.l (evd_ix (EvD.l (evd_var (x := leadsM (tableM bs ls) bs.length) rfl)) (evd_var (x := k) rfl) (by rw [leads_len]; exact hk))) (evd_var (x := k) rfl) (by rw [leads_sq.at (by rw [leads_len]; exact hk), leads_len]; exact hk))))) (fun k hk hc => (evd_var (x := k) rfl))))) (evd_nat (i := 0))) ?_)
    refine st_seq (st_ownP (evnp_call (sc, g, bs, ls) (eva_cons (evd_var (x := sc) rfl) (eva_cons (evd_var (x := g) rfl) (eva_cons (evd_var (x := bs) rfl) (eva_cons (evd_var (x := ls) rfl) eva_nil)))) ⟨hs, hx⟩) fun ts hts => ?_)
    have hts : TLs bs.length 4 ts := hts
    refine st_seq (st_setP (R := Chk (DataM.mk g bs ls)) (evp_call (DataM.mk g bs ls) (eva_cons (evd_var (x := DataM.mk g bs ls) rfl) eva_nil) hmk) fun f hf => ?_)
    obtain ⟨k1, k2, k3⟩ := chk_ring2 hf
    have htl4 := hts.1
    refine st_seq (st_if (b := false) (evb_test ((evd_neS (evd_call (DataM.mk g bs ls, f) (eva_cons (evd_var (x := bs) rfl) (eva_cons (evd_var (x := ls) rfl) (eva_cons (evd_var (x := f) rfl) eva_nil))) ⟨hmk, hf⟩) (ixN (j := if ringM bs ls then 1 else 0) (EvN.l (evn_lst (evi_cons (evd_str (x := "taste")) (evi_cons (evd_str (x := "ring")) evi_nil)) (by simp))) (evd_intb (evd_var (x := ringM bs ls) rfl)) (by cases ringM bs ls <;> rfl) (by cases ringM bs ls <;> decide))).to (by rw [← k1]; simp))) (fun h => nomatch h) (fun h => st_next ?_))
    refine st_seq (st_if (b := false) (EvB.to (evb_and (b := false) (evb_B (evd_var (x := ringM bs ls) rfl)) fun z => ?_) (by rw [Bool.and_false])) (fun h => nomatch h) (fun h => st_next ?_))
    · obtain ⟨c, rfl⟩ := k2 z
      obtain ⟨⟨i, hi, hc⟩, hlen⟩ := hf
      obtain ⟨ok, _, _, _, hst⟩ := hc.facts hi
      have hlen : c.length ≤ 2 * bs.length := hlen
      have hst : strictTo bs ls c (c.length - 1) = true := hst
      refine evb_test ((evd_notT (evd_call2 (evd_var (x := DataM.mk g bs ls) rfl) (EvN.d (evn_list (EvD.l (EvD.to (x := c) (evd_snd (evd_var (x := (("ring" : Str), c)) rfl)) rfl)))) ⟨hB, ok, by omega⟩)).to ?_)
      show (!decide (some (strictTo bs ls c (c.length - 1)) = some true)) = false
      rw [hst]
      rfl
    refine st_mid (fun G' => ∃ ts s12, G' = [pureS sc, pureS g, pureS bs, pureS ls, pureS (DataM.mk g bs ls), pureS (tableM bs ls), pureS (leadsM (tableM bs ls) bs.length), pureS (ringM bs ls), ownS ts, pureS f, none, none, s12, none] ∧ TLs bs.length 5 ts) ?_ ?_
    · refine st_if (evb_not (evb_B (evd_var (x := ringM bs ls) rfl))) (fun h => ?_) (fun h => st_next ⟨_, _, rfl, by omega, hts.2⟩)
      have h : ringM bs ls = false := by simpa using h
      obtain ⟨t, rfl⟩ := k3 h
      obtain ⟨hR, ht⟩ : NoRing bs ls ∧ Told (DataM.mk g bs ls) t := hf
      have tv : ∀ {G : GEnv}, G[9]? = some (pureS (("taste" : Str), t)) → EvD K G (tOp (rIxT K) (tVar 9) (tC (.int 1))) t := fun hG => EvD.to (x := (("taste" : Str), t).2) (evd_snd (evd_var (x := (("taste" : Str), t)) hG)) rfl
      refine st_seq (st_if (b := false) (evb_test ((evd_notT (EvD.some (evd_call2 (evd_var (x := DataM.mk g bs ls) rfl) (evd_tup2 (EvN.d (evn_list (EvD.l (evd_fst (tv rfl))))) (EvN.d (evn_list (EvD.l (evd_snd (tv rfl)))))) ⟨⟨hB, hL⟩, fun x hx => (ht.f1 x hx).mono (by decide), fun x hx => (ht.f2 x hx).mono (by decide)⟩))).to ?_)) (fun h => nomatch h) (fun h => st_next ?_))
      · have := ht.ok
        show (!decide (some (judgeM (DataM.mk g bs ls) t) = some true)) = false
        rw [this]
        rfl
      · exact st_app (x := t) rfl (tv rfl) (by omega) ⟨_, _, rfl, hts.add ht.tl⟩
    · rintro G' ⟨ts, s12, rfl, hts⟩
      refine st_freeze 8 rfl ?_
      refine st_seq (st_forL (fun i G' => ∃ s10 s11 s12, G' = [pureS sc, pureS g, pureS bs, pureS ls, pureS (DataM.mk g bs ls), pureS (tableM bs ls), pureS (leadsM (tableM bs ls) bs.length), pureS (ringM bs ls), pureS ts, pureS f, s10, s11, s12, none]) (evd_var (x := ts) rfl) ⟨_, _, _, rfl⟩ (fun i t G' ht hI => ⟨_, gd_tup2 gd_name gd_name, ?_⟩) fun G' hI => ?_)
      · obtain ⟨s10, s11, s12, rfl⟩ := hI
        have hT := hts.2 t (List.mem_of_getElem? ht)
        obtain ⟨N, W⟩ := t
        refine st_seq (st_set (x := judgeM (DataM.mk g bs ls) (N, W)) (evd_call2 (evd_var (x := DataM.mk g bs ls) rfl) (evd_tup2 (EvN.d (evn_list (EvD.l (evd_var (x := N) rfl)))) (EvN.d (evn_list (EvD.l (evd_var (x := W) rfl))))) ⟨⟨hB, hL⟩, hT.a.f, hT.b.f⟩) ?_)
        refine st_seq (st_if (b := false) (evb_not (a := true) (evb_B (evd_isi (b := true) (evd_var (x := judgeM (DataM.mk g bs ls) (N, W)) rfl) ty_bool rfl))) (fun h => nomatch h) (fun h => st_next ?_))
        refine st_if (b := false) (EvB.to (evb_and (b := false) (evb_B (evd_var (x := judgeM (DataM.mk g bs ls) (N, W)) rfl)) fun z => ?_) (by rw [Bool.and_false])) (fun h => nomatch h) (fun h => st_next ⟨_, _, _, rfl⟩)
        obtain ⟨_, _, hacc⟩ := acc_judge z
        have hacc : accM bs ls N W = true := hacc
        have hr := ring_iff.mpr (acc_noring hacc)
        have hfl := acc_falls hacc
        refine EvB.to (evb_or (evb_B (evd_var (x := ringM bs ls) rfl)) fun _ => (evb_not (evb_B (evd_call (bs, ls, N) (eva_cons (evd_var (x := tableM bs ls) rfl) (eva_cons (evd_var (x := N) rfl) eva_nil)) ⟨by show bs.length ≤ 8; omega, hT.a⟩)))) ?_
        show (ringM bs ls || !fallsM bs ls N) = false
        rw [hr, hfl]
        rfl
      · obtain ⟨s10, s11, s12, rfl⟩ := hI
        exact st_ret (evd_call (DataM.mk g bs ls, g, bs, ls) (eva_cons (evd_var (x := DataM.mk g bs ls) rfl) (eva_cons (evd_var (x := g) rfl) (eva_cons (evd_var (x := bs) rfl) (eva_cons (evd_var (x := ls) rfl) eva_nil)))) ⟨rfl, rfl, rfl, by show bs.length < 100000; omega, by show ls.length < 100000; omega, fun b hb' => by
          have h1 := (hb b hb').s.l1
          have h2 := (hb b hb').s.l2
          omega⟩) rfl rfl
⟩
end BB

/-! the law's def as it is called, with what no importer has seen -/
namespace BB
open PySem PySem.Spec L2 PyProof.Rows
section
variable {P : Program} {w : World} {K : KF} {mg mb : Str → Option Value} {k : Nat} {fa a : Addr} {fd : FuncData} {x : Str} {sp : Sp} {s : Shared} {vs : List Value} {ns : List Int}
/-- the heap behind the top -/
structure Behind (K : KF) (mg mb : Str → Option Value) (s : Shared) (a : Addr) (vs : List Value) : Prop where
  kin : K.In s.heap
  n1 : s.heap.Ns mainGlobals mg
  n2 : s.heap.Ns builtinsNs mb
  n3 : ∀ y : Str, y ≠ "__name__" → mb y = bootBuiltins y
  lim : s.heap.NoLimit
  gen : s.gens = #[]
  see : s.heap.NoSeer
  at_ : s.heap.get? a = some { cls := .type "list", data := .seq vs.toArray }
/-- what is known of the script -/
structure Sole (P : Program) (w : World) (K : KF) (s : Shared) (a : Addr) (H : Hp) : Prop where
  frz : ∀ b, H b = none ∨ ∃ o l, H b = some (.frz o (.lst l))
  ok : HOk P w H s.heap
  sole : ∀ b, H b ≠ none → b = a
  free : H a ≠ none → K.lookup a = none
theorem Sole.off {H : Hp} (S : Sole P w K s a H) {b : Addr} (n : b ≠ a) : H b = none := Classical.byContradiction fun z => n (S.sole b z)
theorem Sole.up {H : Hp} (B : Behind K mg mb s a vs) (S : Sole P w K s a H) {b : Addr} {m : Str → Option Value} (h : s.heap.Ns b m) : (hidT s.heap H).Ns b m := by
  obtain ⟨o, es, ep, h1, h2, h3⟩ := h
  refine ⟨o, es, ep, hidT_get h1 (S.off ?_), h2, h3⟩
  rintro rfl
  rw [B.at_] at h1
  injection h1 with h1
  rw [← h1] at h2
  injection h2
theorem Sole.kin {H : Hp} (B : Behind K mg mb s a vs) (S : Sole P w K s a H) : K.In (hidT s.heap H) := by
  intro b o e
  refine hidT_get (B.kin b o e) (Classical.byContradiction fun z => ?_)
  have eb := S.sole b z
  rw [eb] at e z
  rw [S.free z] at e
  cases e
theorem Sole.see {H : Hp} (B : Behind K mg mb s a vs) (S : Sole P w K s a H) : (hidT s.heap H).NoSeer := by
  obtain ⟨⟨c, c1, c2⟩, ⟨m, m1, m2⟩, ⟨i, i1, i2⟩, g, bm, ob, g1, g2, g3, g4, g5⟩ := B.see
  refine ⟨⟨c, Sole.up B S c1, c2⟩, ⟨m, Sole.up B S m1, m2⟩, ⟨i, Sole.up B S i1, i2⟩, g, bm, ob, Sole.up B S g1, g2, hidT_get g3 (S.off ?_), g4, g5⟩
  rintro rfl
  rw [B.at_] at g3
  injection g3 with g3
  rw [← g3] at g4
  exact absurd g4 (show ¬ Value.type "list" = Value.type "module" by decide)
abbrev Asks (s : Shared) : Result → Shared → Prop := fun r s' => r = .ok (.ret (.bool true)) ∧ OldK s.heap s'.heap ∧ s'.os = s.os ∧ AllBare s'.gens
theorem one_run {H : Hp} (B : Behind K mg mb s a vs) (S : Sole P w K s a H) (room : Room k callerA) (prom : ∀ b : Heap, K.In b → b.Ns mainGlobals mg → b.NoSeer → FnOk P w K mg b CX0 k fa fd [x] sp)
    (bind : ∀ (s : Shared) (u : Value), BindsTo s fd ⟨[u], []⟩ [(x, u)]) (start : sp [.ref a] H (fun v _ => v = .bl true) fun _ _ _ => False) : codeAny (model P w) callerA (.call (.ref fa) ⟨[.ref a], []⟩) (Asks s) s := by
  have lim : (hidT s.heap H).NoLimit := by
    obtain ⟨c, c1, c2⟩ := B.lim
    exact ⟨c, Sole.up B S c1, c2⟩
  have M : Mod K mg (hidT s.heap H) := ⟨Sole.kin B S, Sole.up B S B.n1, ⟨mb, Sole.up B S B.n2, B.n3⟩, lim⟩
  have env : Env0 P w K mg (hidT s.heap H) callerA [] s H := by
    refine ⟨rfl, M, fun b o e => of_hidT e, Nat.le_of_eq (hidT_size _ _), trivial, fun b hb => ?_, S.ok, .of_eq B.gen⟩
    cases hb
  have go := (prom _ (Sole.kin B S) (Sole.up B S B.n1) (Sole.see B S)).run callerA [] s H ⟨[.ref a], []⟩ [.ref a] [.ref a] _ _ room env (bind s (.ref a)) (.cons rfl .nil) start
  refine codeAny_mono go fun r s' h => ?_
  match r, h with
  | .error e, h => exact absurd h id
  | .ok .next, h => exact h.elim
  | .ok .brk, h => exact h.elim
  | .ok .cont, h => exact h.elim
  | .ok (.ret u), h =>
    obtain ⟨v, H', os, bare, un, ok', rv, hv⟩ := h
    have hv : v = .bl true := hv
    subst hv
    have hu : u = Value.bool true := rv
    subst hu
    refine ⟨rfl, OldK.of_keep fun b o e => ?_, os, bare⟩
    rcases S.frz b with z | ⟨ob, l, z⟩
    · refine un.keep b o e z (fun y => ?_) (by simp)
      cases y
    · obtain ⟨e1, _⟩ := S.ok b _ z
      obtain ⟨e2, _⟩ := ok' b _ (un.frzs b ob _ z)
      rw [e1] at e
      rw [← e]
      exact e2
/-- the script as it is told -/
def scrH (a : Addr) (vs : List Value) (ns : List Int) : Hp := fun b => if b = a then some (.frz { cls := .type "list", data := .seq vs.toArray } (.lst (ns.map V.int))) else none
theorem scr_none {b : Addr} (h : b ≠ a) : scrH a vs ns b = none := if_neg h
theorem scr_some : scrH a vs ns a = some (.frz { cls := .type "list", data := .seq vs.toArray } (.lst (ns.map V.int))) := if_pos rfl
theorem any_run (B : Behind K mg mb s a vs) (hi : IntsAre vs ns) (hl : ns.length ≤ sizeLine) (room : Room k callerA) (prom : ∀ b : Heap, K.In b → b.Ns mainGlobals mg → b.NoSeer → FnOk P w K mg b CX0 k fa fd [x] sp)
    (bind : ∀ (s : Shared) (u : Value), BindsTo s fd ⟨[u], []⟩ [(x, u)]) (start : ∀ H : Hp, SqL K H a (ns.map V.int) → sp [.ref a] H (fun v _ => v = .bl true) fun _ _ _ => False) : codeAny (model P w) callerA (.call (.ref fa) ⟨[.ref a], []⟩) (Asks s) s := by
  have rv := vals_ints hi
  have hlen : (ns.map V.int).length ≤ sizeLine := Nat.le_trans (Nat.le_of_eq (List.length_map _)) hl
  cases z : K.lookup a with
  | none =>
    refine one_run (H := scrH a vs ns) B ⟨fun b => ?_, fun b u e => ?_, fun b n => ?_, fun _ => z⟩ room prom bind (start _ (.inl (.inr ⟨_, scr_some⟩)))
    · rcases Classical.em (b = a) with h | h
      · subst h
        exact .inr ⟨_, _, scr_some⟩
      · exact .inl (scr_none h)
    · rcases Classical.em (b = a) with h | h
      · subst h
        rw [scr_some] at e
        cases e
        exact ⟨B.at_, hlen, vs, _, rv, B.at_⟩
      · rw [scr_none h] at e
        cases e
    · exact Classical.byContradiction fun h => n (scr_none h)
  | some o =>
    have ho := B.kin a o z
    rw [B.at_] at ho
    injection ho with ho
    subst ho
    have no : ∀ (b : Addr) (u : HO), (none : Option HO) = some u → False := fun _ _ h => nomatch h
    refine one_run (H := fun _ => none) B ⟨fun _ => .inl rfl, fun b u e => (no b u e).elim, fun b n => absurd rfl n, fun n => absurd rfl n⟩ room prom bind (start _ (.inr ⟨_, vs.toArray, _, z, rfl, rfl, rfl, ?_, ?_⟩))
    · rw [List.size_toArray, hi.length]
      exact hl
    · simpa using rv
end
/-- the goal that the head leaves, from the law's promise -/
theorem walk_see {l : PySem.W.OpenLaw} {n k : Nat} {q : Program} {loose : List Str} {XP : (Str → Option Value) → Heap → Prop} {YP : World → Heap → Prop} {d : DefRec} {K : Params → KF} {sp : KF → Sp} {x : Str}
    (himp : importsNone q = true) (hn : l.most = some n) (hn2 : n ≤ sizeLine) (hdf : d.params.defaults = []) (room : Room k callerA) (hY : ∀ (w : World) (h : Heap), YP w h → (K w.params).In h)
    (F : ∀ (w : World) (mg : Str → Option Value) (fa : Addr) (h : Heap), (K w.params).In h → h.Ns mainGlobals mg → mg d.name = some (.ref fa) →
      ∃ fd : FuncData, (∀ (s : Shared) (u : Value), BindsTo s fd ⟨[u], []⟩ [(x, u)]) ∧ ∀ b : Heap, (K w.params).In b → b.Ns mainGlobals mg → b.NoSeer → FnOk l.prog w (K w.params) mg b CX0 k fa fd [x] (sp (K w.params)))
    (start : ∀ (K : KF) (H : Hp) (a : Addr) (ns : List Int), ns.length ≤ n → (∀ z ∈ ns, Builtin.Int.intBits z ≤ 1048576) → SqL K H a (ns.map V.int) → sp K [.ref a] H (fun v _ => v = .bl true) fun _ _ _ => False) :
    PySem.W.WalkO q loose XP YP l.row.toRowW d [] (fun f vs => PySem.call f vs) := by
  refine Att.attach_callB hn hdf fun w s₀ s₁ mg mb fa o pm cd doc a vs ns G Y ho hd hcd hmg hobj hints hlen hbits hg => ?_
  have kin := hY w _ Y
  obtain ⟨fd, bind, prom⟩ := F w mg fa _ kin G.T.g hmg
  exact any_run ⟨kin, G.T.g, G.T.b, G.T.builtins, G.T.nolimit, hg, G.T.seer himp, hobj⟩ hints (Nat.le_trans hlen hn2) room prom bind fun H hs => start (K w.params) H a ns hlen hbits hs
end BB

/-! every def by its promise -/
namespace BB
open PySem PySem.Spec L2
/-- where a def stands -/
def DefAt (K : KF) (x : Str) (st : Stmt) : Prop := ∃ f fd, Fun K x x st f fd ∧ PySem.W.nsIn K mainGlobals x = some (some (.ref f)) ∧ PySem.W.keepIn K (.ref f) = true
theorem def_at {K : KF} {x : Str} {st : Stmt} {f : Addr} {oc : Value} {od an : Option Addr} {osl : Array (Option Value)} {kV doc pm cdv ct : Value} (n : PySem.W.nsIn K mainGlobals x = some (some (.ref f)))
    (l : K.lookup f = some ⟨oc, od, .func (PySem.W.fnOf x x (defArgs st) (defBody st) (defScope st) .none kV doc pm an cdv ct), osl⟩) (c : PySem.W.codeIn K cdv x = true) (k : PySem.W.keepIn K (.ref f) = true) : DefAt K x st := ⟨f, _, fun_mk l c k, n, k⟩
section
variable {P : Program} {w : World} {K : KF} {h base : Heap} {mg : Str → Option Value}
theorem cal_of {k : Nat} {x : Str} {st : Stmt} {ps : List Str} {sp : Sp} (X : K.In h) (G : h.Ns mainGlobals mg) (D : DefAt K x st) (ok : ∀ f fd, Fun K x x st f fd → FnOk P w K mg base CX0 k f fd ps sp) (bi : ∀ f fd, Fun K x x st f fd → Binds K fd ps []) : Cal P w K mg base k x ps sp := by
  obtain ⟨f, fd, F, n, kp⟩ := D
  exact ⟨f, fd, ok f fd F, PySem.W.mg_of X G n, kp, bi f fd F⟩
/-- the built-ins' names and the constants, as they stand in the module -/
structure Names (K : KF) : Prop where
  len_ : PySem.W.nsIn K mainGlobals "len" = some none
  range_ : PySem.W.nsIn K mainGlobals "range" = some none
  int_ : PySem.W.nsIn K mainGlobals "int" = some none
  list_ : PySem.W.nsIn K mainGlobals "list" = some none
  isinstance_ : PySem.W.nsIn K mainGlobals "isinstance" = some none
  abs_ : PySem.W.nsIn K mainGlobals "abs" = some none
  max_ : PySem.W.nsIn K mainGlobals "max" = some none
  bool_ : PySem.W.nsIn K mainGlobals "bool" = some none
  tuple_ : PySem.W.nsIn K mainGlobals "tuple" = some none
  str_ : PySem.W.nsIn K mainGlobals "str" = some none
  gcd_ : PySem.W.nsIn K mainGlobals "gcd" = some (some (.builtin "math.gcd"))
theorem Names.bi (N : Names K) (X : K.In h) (G : h.Ns mainGlobals mg) (see : base.NoSeer) (tree : P.given.tree = none) : Bi P mg base :=
  ⟨PySem.W.mg_none_of X G N.len_, PySem.W.mg_none_of X G N.range_, PySem.W.mg_none_of X G N.int_, PySem.W.mg_none_of X G N.list_, PySem.W.mg_none_of X G N.isinstance_, PySem.W.mg_none_of X G N.abs_, PySem.W.mg_none_of X G N.max_, PySem.W.mg_none_of X G N.bool_, PySem.W.mg_none_of X G N.tuple_, PySem.W.mg_none_of X G N.str_, PySem.W.mg_of X G N.gcd_, see, tree⟩
/-- the class Data, as it stands in the module -/
structure ClsAt (K : KF) (C fI : Addr) (fdI : FuncData) : Prop where
  n : PySem.W.nsIn K mainGlobals "Data" = some (some (.ref C))
  cl : Cls K C
  n1 : NoAttr K C "goods"
  n2 : NoAttr K C "buys"
  n3 : NoAttr K C "links"
  mkr : L2.Mk K C fI
  fn : Fun K "__init__" "Data.__init__" s_Data fI fdI
theorem all_mk {fa aZ aO C fI : Addr} {fdI : FuncData} (X : K.In h) (G : h.Ns mainGlobals mg) (hfa : mg "law" = some (.ref fa)) (tree : P.given.tree = none) (N : Names K) (zz : PySem.W.nsIn K mainGlobals "ZERO" = some (some (.ref aZ))) (zo : PySem.W.nsIn K mainGlobals "ONE" = some (some (.ref aO)))
    (tz : ∀ H, SqT K H aZ [.int (0 : Rat).num, .int (0 : Rat).den]) (to : ∀ H, SqT K H aO [.int (1 : Rat).num, .int (1 : Rat).den]) (D : ClsAt K C fI fdI)
    (d_less : DefAt K "less" s_less)
    (d_at_most : DefAt K "at_most" s_at_most)
    (d_ratio : DefAt K "ratio" s_ratio)
    (d_add : DefAt K "add" s_add)
    (d_sub : DefAt K "sub" s_sub)
    (d_mul : DefAt K "mul" s_mul)
    (d_dot : DefAt K "dot" s_dot)
    (d_cost : DefAt K "cost" s_cost)
    (d_spent : DefAt K "spent" s_spent)
    (d_plane : DefAt K "plane" s_plane)
    (d_links_hold : DefAt K "links_hold" s_links_hold)
    (d_judge_taste : DefAt K "judge_taste" s_judge_taste)
    (d_step : DefAt K "step" s_step)
    (d_judge_chain : DefAt K "judge_chain" s_judge_chain)
    (d_step_table : DefAt K "step_table" s_step_table)
    (d_find_in : DefAt K "find_in" s_find_in)
    (d_leads : DefAt K "leads" s_leads)
    (d_find_chain : DefAt K "find_chain" s_find_chain)
    (d_next_class : DefAt K "next_class" s_next_class)
    (d_class_number : DefAt K "class_number" s_class_number)
    (d_div : DefAt K "div" s_div)
    (d_member_weight : DefAt K "member_weight" s_member_weight)
    (d_make_taste : DefAt K "make_taste" s_make_taste)
    (d_check : DefAt K "check" s_check)
    (d_law_row : DefAt K "_law_row" s__law_row)
    (d_law_long : DefAt K "_law_long" s__law_long)
    (d_law_gcd : DefAt K "_law_gcd" s__law_gcd)
    (d_law_lowest : DefAt K "_law_lowest" s__law_lowest)
    (d_law_purchase : DefAt K "_law_purchase" s__law_purchase)
    (d_law_data : DefAt K "_law_data" s__law_data)
    (d_law_made : DefAt K "_law_made" s__law_made)
    (d_law_dot : DefAt K "_law_dot" s__law_dot)
    (d_law_gap : DefAt K "_law_gap" s__law_gap)
    (d_law_step : DefAt K "_law_step" s__law_step)
    (d_law_steps : DefAt K "_law_steps" s__law_steps)
    (d_law_closure : DefAt K "_law_closure" s__law_closure)
    (d_law_is_integer : DefAt K "_law_is_integer" s__law_is_integer)
    (d_law_chain : DefAt K "_law_chain" s__law_chain)
    (d_law_is_ring : DefAt K "_law_is_ring" s__law_is_ring)
    (d_law_is_fraction : DefAt K "_law_is_fraction" s__law_is_fraction)
    (d_law_are_fractions : DefAt K "_law_are_fractions" s__law_are_fractions)
    (d_law_add : DefAt K "_law_add" s__law_add)
    (d_law_mul : DefAt K "_law_mul" s__law_mul)
    (d_law_over : DefAt K "_law_over" s__law_over)
    (d_law_accepts : DefAt K "_law_accepts" s__law_accepts)
    (d_law_is_taste : DefAt K "_law_is_taste" s__law_is_taste)
    (d_law_kind : DefAt K "_law_kind" s__law_kind)
    (d_law_same : DefAt K "_law_same" s__law_same)
    (d_law_unchanged : DefAt K "_law_unchanged" s__law_unchanged)
    (d_law_falls_along : DefAt K "_law_falls_along" s__law_falls_along)
    (d_law_weights : DefAt K "_law_weights" s__law_weights)
    (d_law_numbers : DefAt K "_law_numbers" s__law_numbers)
    (d_law_worth : DefAt K "_law_worth" s__law_worth)
    (d_law_without : DefAt K "_law_without" s__law_without)
    (d_law_tastes : DefAt K "_law_tastes" s__law_tastes)
    (d_law : DefAt K "law" s_law)
    : ∃ fd : FuncData, (∀ (s : Shared) (u : Value), BindsTo s fd ⟨[u], []⟩ [("_law_script", u)]) ∧ ∀ b : Heap, K.In b → b.Ns mainGlobals mg → b.NoSeer → FnOk P w K mg b CX0 62 fa fd ["_law_script"] (sp_law K) := by
  obtain ⟨f, fd, F, nf, kf⟩ := d_law
  have e := hfa.symm.trans (PySem.W.mg_of X G nf)
  cases e
  have bl := F.binds (ps := ["_law_script"]) fun _ _ _ _ _ _ us hl => match us, hl with | [_], _ => rfl
  refine ⟨fd, fun s u => ?_, fun b hK hN hS => ?_⟩
  · obtain ⟨oc, od, kV, doc, pm, an, cdv, ct, osl, rfl, _, _⟩ := F.ex
    exact .of_eq rfl
  have B : Bi P mg b := N.bi X G hS tree
  have Z : Zc K mg aZ aO := ⟨PySem.W.mg_of X G zz, PySem.W.mg_of X G zo, tz, to⟩
  have Zk : Zd K mg C := ⟨PySem.W.mg_of X G D.n, D.cl, D.n1, D.n2, D.n3⟩
  have GI : FnOk P w K mg b CX0 40 fI fdI ["self", "goods", "buys", "links"] (sp_Data C K) := ok_Data D.fn B Zk
  have bI : Binds K fdI ["self", "goods", "buys", "links"] [] := D.fn.binds (ps := ["self", "goods", "buys", "links"]) fun _ _ _ _ _ _ us hl => match us, hl with | [_, _, _, _], _ => rfl
  have Cless : Cal P w K mg b 40 "less" ["a", "b"] (sp_less K) := cal_of X G d_less (fun _ _ F => ok_less F B) (fun _ _ F => F.binds (ps := ["a", "b"]) fun _ _ _ _ _ _ us hl => match us, hl with | [_, _], _ => rfl)
  have Cat_most : Cal P w K mg b 40 "at_most" ["a", "b"] (sp_at_most K) := cal_of X G d_at_most (fun _ _ F => ok_at_most F B) (fun _ _ F => F.binds (ps := ["a", "b"]) fun _ _ _ _ _ _ us hl => match us, hl with | [_, _], _ => rfl)
  have Cratio : Cal P w K mg b 40 "ratio" ["p", "q"] (sp_ratio K) := cal_of X G d_ratio (fun _ _ F => ok_ratio F B) (fun _ _ F => F.binds (ps := ["p", "q"]) fun _ _ _ _ _ _ us hl => match us, hl with | [_, _], _ => rfl)
  have Cadd : Cal P w K mg b 41 "add" ["a", "b"] (sp_add K) := cal_of X G d_add (fun _ _ F => ok_add F B Cratio) (fun _ _ F => F.binds (ps := ["a", "b"]) fun _ _ _ _ _ _ us hl => match us, hl with | [_, _], _ => rfl)
  have Csub : Cal P w K mg b 41 "sub" ["a", "b"] (sp_sub K) := cal_of X G d_sub (fun _ _ F => ok_sub F B Cratio) (fun _ _ F => F.binds (ps := ["a", "b"]) fun _ _ _ _ _ _ us hl => match us, hl with | [_, _], _ => rfl)
  have Cmul : Cal P w K mg b 41 "mul" ["a", "b"] (sp_mul K) := cal_of X G d_mul (fun _ _ F => ok_mul F B Cratio) (fun _ _ F => F.binds (ps := ["a", "b"]) fun _ _ _ _ _ _ us hl => match us, hl with | [_, _], _ => rfl)
  have Cdot : Cal P w K mg b 42 "dot" ["a", "b"] (sp_dot K) := cal_of X G d_dot (fun _ _ F => ok_dot F B Z Cadd Cmul) (fun _ _ F => F.binds (ps := ["a", "b"]) fun _ _ _ _ _ _ us hl => match us, hl with | [_, _], _ => rfl)
  have Ccost : Cal P w K mg b 43 "cost" ["prices", "amounts"] (sp_cost K) := cal_of X G d_cost (fun _ _ F => ok_cost F B Cdot) (fun _ _ F => F.binds (ps := ["prices", "amounts"]) fun _ _ _ _ _ _ us hl => match us, hl with | [_, _], _ => rfl)
  have Cspent : Cal P w K mg b 43 "spent" ["data", "i"] (sp_spent K) := cal_of X G d_spent (fun _ _ F => ok_spent F B Cdot) (fun _ _ F => F.binds (ps := ["data", "i"]) fun _ _ _ _ _ _ us hl => match us, hl with | [_, _], _ => rfl)
  have Cplane : Cal P w K mg b 44 "plane" ["data", "taste", "i", "basket"] (sp_plane K) := cal_of X G d_plane (fun _ _ F => ok_plane F B Cadd Csub Cmul Ccost Cspent) (fun _ _ F => F.binds (ps := ["data", "taste", "i", "basket"]) fun _ _ _ _ _ _ us hl => match us, hl with | [_, _, _, _], _ => rfl)
  have Clinks_hold : Cal P w K mg b 41 "links_hold" ["links", "numbers"] (sp_links_hold K) := cal_of X G d_links_hold (fun _ _ F => ok_links_hold F B Cless) (fun _ _ F => F.binds (ps := ["links", "numbers"]) fun _ _ _ _ _ _ us hl => match us, hl with | [_, _], _ => rfl)
  have Cjudge_taste : Cal P w K mg b 45 "judge_taste" ["data", "taste"] (sp_judge_taste K) := cal_of X G d_judge_taste (fun _ _ F => ok_judge_taste F B Z Cless Cat_most Cplane Clinks_hold) (fun _ _ F => F.binds (ps := ["data", "taste"]) fun _ _ _ _ _ _ us hl => match us, hl with | [_, _], _ => rfl)
  have Cstep : Cal P w K mg b 44 "step" ["data", "i", "j"] (sp_step K) := cal_of X G d_step (fun _ _ F => ok_step F B Cless Cat_most Ccost Cspent) (fun _ _ F => F.binds (ps := ["data", "i", "j"]) fun _ _ _ _ _ _ us hl => match us, hl with | [_, _, _], _ => rfl)
  have Cjudge_chain : Cal P w K mg b 45 "judge_chain" ["data", "chain"] (sp_judge_chain K) := cal_of X G d_judge_chain (fun _ _ F => ok_judge_chain F B Cstep) (fun _ _ F => F.binds (ps := ["data", "chain"]) fun _ _ _ _ _ _ us hl => match us, hl with | [_, _], _ => rfl)
  have Cstep_table : Cal P w K mg b 45 "step_table" ["data"] (sp_step_table K) := cal_of X G d_step_table (fun _ _ F => ok_step_table F B Cstep) (fun _ _ F => F.binds (ps := ["data"]) fun _ _ _ _ _ _ us hl => match us, hl with | [_], _ => rfl)
  have Cfind_in : Cal P w K mg b 40 "find_in" ["table", "i"] (sp_find_in P w K) := cal_of X G d_find_in (fun _ _ F => ok_find_in F B) (fun _ _ F => F.binds (ps := ["table", "i"]) fun _ _ _ _ _ _ us hl => match us, hl with | [_, _], _ => rfl)
  have Cleads : Cal P w K mg b 46 "leads" ["data"] (sp_leads K) := cal_of X G d_leads (fun _ _ F => ok_leads F B Cstep_table Cfind_in) (fun _ _ F => F.binds (ps := ["data"]) fun _ _ _ _ _ _ us hl => match us, hl with | [_], _ => rfl)
  have Cfind_chain : Cal P w K mg b 46 "find_chain" ["data", "i", "j"] (sp_find_chain K) := cal_of X G d_find_chain (fun _ _ F => ok_find_chain F B Cstep_table Cfind_in) (fun _ _ F => F.binds (ps := ["data", "i", "j"]) fun _ _ _ _ _ _ us hl => match us, hl with | [_, _, _], _ => rfl)
  have Cnext_class : Cal P w K mg b 40 "next_class" ["table", "done"] (sp_next_class K) := cal_of X G d_next_class (fun _ _ F => ok_next_class F B) (fun _ _ F => F.binds (ps := ["table", "done"]) fun _ _ _ _ _ _ us hl => match us, hl with | [_, _], _ => rfl)
  have Cclass_number : Cal P w K mg b 45 "class_number" ["data", "taste", "done", "members"] (sp_class_number K) := cal_of X G d_class_number (fun _ _ F => ok_class_number F B Z Csub Cless Cplane) (fun _ _ F => F.binds (ps := ["data", "taste", "done", "members"]) fun _ _ _ _ _ _ us hl => match us, hl with | [_, _, _, _], _ => rfl)
  have Cdiv : Cal P w K mg b 41 "div" ["a", "b"] (sp_div K) := cal_of X G d_div (fun _ _ F => ok_div F B Cratio) (fun _ _ F => F.binds (ps := ["a", "b"]) fun _ _ _ _ _ _ us hl => match us, hl with | [_, _], _ => rfl)
  have Cmember_weight : Cal P w K mg b 44 "member_weight" ["data", "numbers", "done", "number", "j"] (sp_member_weight K) := cal_of X G d_member_weight (fun _ _ F => ok_member_weight F B Z Csub Cdiv Cless Ccost Cspent) (fun _ _ F => F.binds (ps := ["data", "numbers", "done", "number", "j"]) fun _ _ _ _ _ _ us hl => match us, hl with | [_, _, _, _, _], _ => rfl)
  have Cmake_taste : Cal P w K mg b 46 "make_taste" ["data", "table"] (sp_make_taste K) := cal_of X G d_make_taste (fun _ _ F => ok_make_taste F B Z Cnext_class Cclass_number Cmember_weight) (fun _ _ F => F.binds (ps := ["data", "table"]) fun _ _ _ _ _ _ us hl => match us, hl with | [_, _], _ => rfl)
  have Ccheck : Cal P w K mg b 47 "check" ["data"] (sp_check K) := cal_of X G d_check (fun _ _ F => ok_check F B Cleads Cfind_chain Cmake_taste) (fun _ _ F => F.binds (ps := ["data"]) fun _ _ _ _ _ _ us hl => match us, hl with | [_], _ => rfl)
  have C_law_row : Cal P w K mg b 40 "_law_row" ["_law_script", "_law_place", "_law_many"] (sp__law_row K) := cal_of X G d_law_row (fun _ _ F => ok__law_row F B) (fun _ _ F => F.binds (ps := ["_law_script", "_law_place", "_law_many"]) fun _ _ _ _ _ _ us hl => match us, hl with | [_, _, _], _ => rfl)
  have C_law_long : Cal P w K mg b 40 "_law_long" ["_law_row_here", "_law_start", "_law_many"] (sp__law_long K) := cal_of X G d_law_long (fun _ _ F => ok__law_long F B) (fun _ _ F => F.binds (ps := ["_law_row_here", "_law_start", "_law_many"]) fun _ _ _ _ _ _ us hl => match us, hl with | [_, _, _], _ => rfl)
  have C_law_gcd : Cal P w K mg b 40 "_law_gcd" ["_law_a", "_law_b"] (sp__law_gcd K) := cal_of X G d_law_gcd (fun _ _ F => ok__law_gcd F B) (fun _ _ F => F.binds (ps := ["_law_a", "_law_b"]) fun _ _ _ _ _ _ us hl => match us, hl with | [_, _], _ => rfl)
  have C_law_lowest : Cal P w K mg b 41 "_law_lowest" ["_law_p", "_law_q"] (sp__law_lowest K) := cal_of X G d_law_lowest (fun _ _ F => ok__law_lowest F B C_law_gcd) (fun _ _ F => F.binds (ps := ["_law_p", "_law_q"]) fun _ _ _ _ _ _ us hl => match us, hl with | [_, _], _ => rfl)
  have C_law_purchase : Cal P w K mg b 42 "_law_purchase" ["_law_row_here", "_law_shape", "_law_goods", "_law_kind_here"] (sp__law_purchase K) := cal_of X G d_law_purchase (fun _ _ F => ok__law_purchase F B C_law_long C_law_lowest) (fun _ _ F => F.binds (ps := ["_law_row_here", "_law_shape", "_law_goods", "_law_kind_here"]) fun _ _ _ _ _ _ us hl => match us, hl with | [_, _, _, _], _ => rfl)
  have C_law_data : Cal P w K mg b 43 "_law_data" ["_law_script", "_law_place", "_law_most", "_law_linked"] (sp__law_data K) := cal_of X G d_law_data (fun _ _ F => ok__law_data F B C_law_row C_law_purchase) (fun _ _ F => F.binds (ps := ["_law_script", "_law_place", "_law_most", "_law_linked"]) fun _ _ _ _ _ _ us hl => match us, hl with | [_, _, _, _], _ => rfl)
  have C_law_made : Cal P w K mg b 51 "_law_made" ["_law_goods", "_law_buys", "_law_links"] (sp__law_made K) := cal_of X G d_law_made (fun _ _ F => ok__law_made F B Zk D.mkr GI bI) (fun _ _ F => F.binds (ps := ["_law_goods", "_law_buys", "_law_links"]) fun _ _ _ _ _ _ us hl => match us, hl with | [_, _, _], _ => rfl)
  have C_law_dot : Cal P w K mg b 40 "_law_dot" ["_law_a", "_law_b"] (sp__law_dot K) := cal_of X G d_law_dot (fun _ _ F => ok__law_dot F B) (fun _ _ F => F.binds (ps := ["_law_a", "_law_b"]) fun _ _ _ _ _ _ us hl => match us, hl with | [_, _], _ => rfl)
  have C_law_gap : Cal P w K mg b 41 "_law_gap" ["_law_buys", "_law_i", "_law_basket"] (sp__law_gap K) := cal_of X G d_law_gap (fun _ _ F => ok__law_gap F B C_law_dot) (fun _ _ F => F.binds (ps := ["_law_buys", "_law_i", "_law_basket"]) fun _ _ _ _ _ _ us hl => match us, hl with | [_, _, _], _ => rfl)
  have C_law_step : Cal P w K mg b 42 "_law_step" ["_law_buys", "_law_links", "_law_i", "_law_j"] (sp__law_step K) := cal_of X G d_law_step (fun _ _ F => ok__law_step F B C_law_gap) (fun _ _ F => F.binds (ps := ["_law_buys", "_law_links", "_law_i", "_law_j"]) fun _ _ _ _ _ _ us hl => match us, hl with | [_, _, _, _], _ => rfl)
  have C_law_steps : Cal P w K mg b 43 "_law_steps" ["_law_buys", "_law_links"] (sp__law_steps K) := cal_of X G d_law_steps (fun _ _ F => ok__law_steps F B C_law_step) (fun _ _ F => F.binds (ps := ["_law_buys", "_law_links"]) fun _ _ _ _ _ _ us hl => match us, hl with | [_, _], _ => rfl)
  have C_law_closure : Cal P w K mg b 40 "_law_closure" ["_law_steps_here"] (sp__law_closure K) := cal_of X G d_law_closure (fun _ _ F => ok__law_closure F B) (fun _ _ F => F.binds (ps := ["_law_steps_here"]) fun _ _ _ _ _ _ us hl => match us, hl with | [_], _ => rfl)
  have C_law_is_integer : Cal P w K mg b 40 "_law_is_integer" ["_law_x"] (sp__law_is_integer K) := cal_of X G d_law_is_integer (fun _ _ F => ok__law_is_integer F B) (fun _ _ F => F.binds (ps := ["_law_x"]) fun _ _ _ _ _ _ us hl => match us, hl with | [_], _ => rfl)
  have C_law_chain : Cal P w K mg b 41 "_law_chain" ["_law_steps_here", "_law_chain_here"] (sp__law_chain K) := cal_of X G d_law_chain (fun _ _ F => ok__law_chain F B C_law_is_integer) (fun _ _ F => F.binds (ps := ["_law_steps_here", "_law_chain_here"]) fun _ _ _ _ _ _ us hl => match us, hl with | [_, _], _ => rfl)
  have C_law_is_ring : Cal P w K mg b 44 "_law_is_ring" ["_law_buys", "_law_links", "_law_chain_here"] (sp__law_is_ring K) := cal_of X G d_law_is_ring (fun _ _ F => ok__law_is_ring F B C_law_steps C_law_chain) (fun _ _ F => F.binds (ps := ["_law_buys", "_law_links", "_law_chain_here"]) fun _ _ _ _ _ _ us hl => match us, hl with | [_, _, _], _ => rfl)
  have C_law_is_fraction : Cal P w K mg b 41 "_law_is_fraction" ["_law_x"] (sp__law_is_fraction K) := cal_of X G d_law_is_fraction (fun _ _ F => ok__law_is_fraction F B C_law_is_integer C_law_gcd) (fun _ _ F => F.binds (ps := ["_law_x"]) fun _ _ _ _ _ _ us hl => match us, hl with | [_], _ => rfl)
  have C_law_are_fractions : Cal P w K mg b 42 "_law_are_fractions" ["_law_xs", "_law_many"] (sp__law_are_fractions K) := cal_of X G d_law_are_fractions (fun _ _ F => ok__law_are_fractions F B C_law_is_fraction) (fun _ _ F => F.binds (ps := ["_law_xs", "_law_many"]) fun _ _ _ _ _ _ us hl => match us, hl with | [_, _], _ => rfl)
  have C_law_add : Cal P w K mg b 40 "_law_add" ["_law_a", "_law_b"] (sp__law_add K) := cal_of X G d_law_add (fun _ _ F => ok__law_add F B) (fun _ _ F => F.binds (ps := ["_law_a", "_law_b"]) fun _ _ _ _ _ _ us hl => match us, hl with | [_, _], _ => rfl)
  have C_law_mul : Cal P w K mg b 40 "_law_mul" ["_law_a", "_law_b"] (sp__law_mul K) := cal_of X G d_law_mul (fun _ _ F => ok__law_mul F B) (fun _ _ F => F.binds (ps := ["_law_a", "_law_b"]) fun _ _ _ _ _ _ us hl => match us, hl with | [_, _], _ => rfl)
  have C_law_over : Cal P w K mg b 40 "_law_over" ["_law_a", "_law_b"] (sp__law_over K) := cal_of X G d_law_over (fun _ _ F => ok__law_over F B) (fun _ _ F => F.binds (ps := ["_law_a", "_law_b"]) fun _ _ _ _ _ _ us hl => match us, hl with | [_, _], _ => rfl)
  have C_law_accepts : Cal P w K mg b 42 "_law_accepts" ["_law_buys", "_law_links", "_law_numbers_here", "_law_weights_here"] (sp__law_accepts K) := cal_of X G d_law_accepts (fun _ _ F => ok__law_accepts F B C_law_gap C_law_add C_law_mul C_law_over) (fun _ _ F => F.binds (ps := ["_law_buys", "_law_links", "_law_numbers_here", "_law_weights_here"]) fun _ _ _ _ _ _ us hl => match us, hl with | [_, _, _, _], _ => rfl)
  have C_law_is_taste : Cal P w K mg b 43 "_law_is_taste" ["_law_buys", "_law_links", "_law_taste"] (sp__law_is_taste K) := cal_of X G d_law_is_taste (fun _ _ F => ok__law_is_taste F B C_law_are_fractions C_law_accepts) (fun _ _ F => F.binds (ps := ["_law_buys", "_law_links", "_law_taste"]) fun _ _ _ _ _ _ us hl => match us, hl with | [_, _, _], _ => rfl)
  have C_law_kind : Cal P w K mg b 45 "_law_kind" ["_law_buys", "_law_links", "_law_found"] (sp__law_kind K) := cal_of X G d_law_kind (fun _ _ F => ok__law_kind F B C_law_is_ring C_law_is_taste) (fun _ _ F => F.binds (ps := ["_law_buys", "_law_links", "_law_found"]) fun _ _ _ _ _ _ us hl => match us, hl with | [_, _, _], _ => rfl)
  have C_law_same : Cal P w K mg b 60 "_law_same" ["_law_actual", "_law_due"] (sp__law_same K) := by
    obtain ⟨f, fd, F, n, kp⟩ := d_law_same
    have bi := F.binds (ps := ["_law_actual", "_law_due"]) fun _ _ _ _ _ _ us hl => match us, hl with | [_, _], _ => rfl
    exact ⟨f, fd, (ok__law_same F B C_law_is_integer (PySem.W.mg_of X G n) kp bi 5).mono (by decide), PySem.W.mg_of X G n, kp, bi⟩
  have C_law_unchanged : Cal P w K mg b 61 "_law_unchanged" ["_law_data_here", "_law_goods", "_law_buys", "_law_links"] (sp__law_unchanged K) := cal_of X G d_law_unchanged (fun _ _ F => ok__law_unchanged F B C_law_same) (fun _ _ F => F.binds (ps := ["_law_data_here", "_law_goods", "_law_buys", "_law_links"]) fun _ _ _ _ _ _ us hl => match us, hl with | [_, _, _, _], _ => rfl)
  have C_law_falls_along : Cal P w K mg b 41 "_law_falls_along" ["_law_steps_here", "_law_numbers_here"] (sp__law_falls_along K) := cal_of X G d_law_falls_along (fun _ _ F => ok__law_falls_along F B C_law_over) (fun _ _ F => F.binds (ps := ["_law_steps_here", "_law_numbers_here"]) fun _ _ _ _ _ _ us hl => match us, hl with | [_, _], _ => rfl)
  have C_law_weights : Cal P w K mg b 42 "_law_weights" ["_law_row_here", "_law_buys"] (sp__law_weights K) := cal_of X G d_law_weights (fun _ _ F => ok__law_weights F B C_law_lowest C_law_dot) (fun _ _ F => F.binds (ps := ["_law_row_here", "_law_buys"]) fun _ _ _ _ _ _ us hl => match us, hl with | [_, _], _ => rfl)
  have C_law_numbers : Cal P w K mg b 42 "_law_numbers" ["_law_buys", "_law_links", "_law_weights_here"] (sp__law_numbers K) := cal_of X G d_law_numbers (fun _ _ F => ok__law_numbers F B C_law_lowest C_law_gap C_law_add C_law_mul C_law_over) (fun _ _ F => F.binds (ps := ["_law_buys", "_law_links", "_law_weights_here"]) fun _ _ _ _ _ _ us hl => match us, hl with | [_, _, _], _ => rfl)
  have C_law_worth : Cal P w K mg b 42 "_law_worth" ["_law_buys", "_law_numbers_here", "_law_weights_here", "_law_basket"] (sp__law_worth K) := cal_of X G d_law_worth (fun _ _ F => ok__law_worth F B C_law_lowest C_law_gap C_law_add C_law_mul C_law_over) (fun _ _ F => F.binds (ps := ["_law_buys", "_law_numbers_here", "_law_weights_here", "_law_basket"]) fun _ _ _ _ _ _ us hl => match us, hl with | [_, _, _, _], _ => rfl)
  have C_law_without : Cal P w K mg b 52 "_law_without" ["_law_goods", "_law_buys", "_law_links", "_law_k", "_law_weight"] (sp__law_without K) := cal_of X G d_law_without (fun _ _ F => ok__law_without F B Ccheck C_law_made C_law_kind C_law_worth) (fun _ _ F => F.binds (ps := ["_law_goods", "_law_buys", "_law_links", "_law_k", "_law_weight"]) fun _ _ _ _ _ _ us hl => match us, hl with | [_, _, _, _, _], _ => rfl)
  have C_law_tastes : Cal P w K mg b 53 "_law_tastes" ["_law_script", "_law_goods", "_law_buys", "_law_links"] (sp__law_tastes K) := cal_of X G d_law_tastes (fun _ _ F => ok__law_tastes F B Ccheck C_law_row C_law_lowest C_law_made C_law_kind C_law_weights C_law_numbers C_law_without) (fun _ _ F => F.binds (ps := ["_law_script", "_law_goods", "_law_buys", "_law_links"]) fun _ _ _ _ _ _ us hl => match us, hl with | [_, _, _, _], _ => rfl)
  exact ok_law F B Cjudge_taste Cjudge_chain Ccheck C_law_data C_law_made C_law_steps C_law_closure C_law_kind C_law_unchanged C_law_falls_along C_law_tastes
theorem cst {a : Addr} {xs : List V} {od : Option Addr} {its : Array Value} {n : Nat} {sl : Array (Option Value)} (l : K.lookup a = some ⟨.type "tuple", od, .seq its n, sl⟩) (hz : its.size ≤ sizeLine) (v : Vals xs its.toList) : ∀ H, SqT K H a xs := fun H => .inr ⟨_, _, _, l, rfl, rfl, hz, v⟩
theorem fit_bits {z : Int} (h : Builtin.Int.intBits z ≤ 1048576) : Fit 1048576 z := by
  unfold Builtin.Int.intBits at h
  split at h
  · rename_i e
    have e : z = 0 := by simpa using e
    rw [e]
    exact (fit_zero (show 0 < 1048576 by decide)).1
  · exact Nat.lt_of_lt_of_le Nat.lt_log2_self (Nat.pow_le_pow_right (by decide) h)
theorem scr_start {H : Hp} {a : Addr} {ns : List Int} (hl : ns.length ≤ 63) (hb : ∀ z ∈ ns, Builtin.Int.intBits z ≤ 1048576) (hs : SqL K H a (ns.map V.int)) : sp_law K [.ref a] H (fun v _ => v = .bl true) fun _ _ _ => False :=
  ⟨H, ⟨ns⟩, Same.refl _, ⟨⟨a, rfl, hs⟩, trivial⟩, ⟨hl, fun x hx => fit_bits (hb x hx)⟩, fun v Hs' H' g r => r⟩
end
end BB

open PySem PySem.W PyProof.Rows
set_option maxHeartbeats 0 in
theorem PySem.Challenge.cw_buybook_k57_whole_taste_and_ring_never_b_holds : PySem.Challenge.rw_buybook_k57_whole_taste_and_ring_never_b.Holds := by
  w_on; o_law; k_head; (case hw => w_witness2)
  k_fill
  refine BB.walk_see (l := PySem.Challenge.rw_buybook_k57_whole_taste_and_ring_never_b) (k := 62) (n := 63) (sp := BB.sp_law) (x := "_law_script") (by decide +kernel) rfl (by decide) rfl ⟨rfl, by decide, by decide⟩ (fun w h Y => PySem.W.kIn_of Y) ?F ?S
  case S => exact fun K H a ns hl hb hs => BB.scr_start hl hb hs
  case F =>
    intro w mg fa h KX G hmg'
    have hmg : mg "law" = some (.ref fa) := hmg'
    clear hmg'
    refine' BB.all_mk KX G hmg rfl ⟨?b_len, ?b_range, ?b_int, ?b_list, ?b_isinstance, ?b_abs, ?b_max, ?b_bool, ?b_tuple, ?b_str, ?b_gcd⟩ ?z_z ?z_o (BB.cst ?z_lz ?z_sz ?z_vz) (BB.cst ?z_lo ?z_so ?z_vo) ⟨?u_n, ⟨?u_pg, ?u_hd, ?u_po, ?u_sa⟩, ?u_a1, ?u_a2, ?u_a3, ⟨?u_mk, ?u_in, ?u_fn, ?u_kc⟩, L2.fun_mk ?u_l ?u_c ?u_k⟩
      (BB.def_at ?n_less ?l_less ?c_less ?k_less)
      (BB.def_at ?n_at_most ?l_at_most ?c_at_most ?k_at_most)
      (BB.def_at ?n_ratio ?l_ratio ?c_ratio ?k_ratio)
      (BB.def_at ?n_add ?l_add ?c_add ?k_add)
      (BB.def_at ?n_sub ?l_sub ?c_sub ?k_sub)
      (BB.def_at ?n_mul ?l_mul ?c_mul ?k_mul)
      (BB.def_at ?n_dot ?l_dot ?c_dot ?k_dot)
      (BB.def_at ?n_cost ?l_cost ?c_cost ?k_cost)
      (BB.def_at ?n_spent ?l_spent ?c_spent ?k_spent)
      (BB.def_at ?n_plane ?l_plane ?c_plane ?k_plane)
      (BB.def_at ?n_links_hold ?l_links_hold ?c_links_hold ?k_links_hold)
      (BB.def_at ?n_judge_taste ?l_judge_taste ?c_judge_taste ?k_judge_taste)
      (BB.def_at ?n_step ?l_step ?c_step ?k_step)
      (BB.def_at ?n_judge_chain ?l_judge_chain ?c_judge_chain ?k_judge_chain)
      (BB.def_at ?n_step_table ?l_step_table ?c_step_table ?k_step_table)
      (BB.def_at ?n_find_in ?l_find_in ?c_find_in ?k_find_in)
      (BB.def_at ?n_leads ?l_leads ?c_leads ?k_leads)
      (BB.def_at ?n_find_chain ?l_find_chain ?c_find_chain ?k_find_chain)
      (BB.def_at ?n_next_class ?l_next_class ?c_next_class ?k_next_class)
      (BB.def_at ?n_class_number ?l_class_number ?c_class_number ?k_class_number)
      (BB.def_at ?n_div ?l_div ?c_div ?k_div)
      (BB.def_at ?n_member_weight ?l_member_weight ?c_member_weight ?k_member_weight)
      (BB.def_at ?n_make_taste ?l_make_taste ?c_make_taste ?k_make_taste)
      (BB.def_at ?n_check ?l_check ?c_check ?k_check)
      (BB.def_at ?n_law_row ?l_law_row ?c_law_row ?k_law_row)
      (BB.def_at ?n_law_long ?l_law_long ?c_law_long ?k_law_long)
      (BB.def_at ?n_law_gcd ?l_law_gcd ?c_law_gcd ?k_law_gcd)
      (BB.def_at ?n_law_lowest ?l_law_lowest ?c_law_lowest ?k_law_lowest)
      (BB.def_at ?n_law_purchase ?l_law_purchase ?c_law_purchase ?k_law_purchase)
      (BB.def_at ?n_law_data ?l_law_data ?c_law_data ?k_law_data)
      (BB.def_at ?n_law_made ?l_law_made ?c_law_made ?k_law_made)
      (BB.def_at ?n_law_dot ?l_law_dot ?c_law_dot ?k_law_dot)
      (BB.def_at ?n_law_gap ?l_law_gap ?c_law_gap ?k_law_gap)
      (BB.def_at ?n_law_step ?l_law_step ?c_law_step ?k_law_step)
      (BB.def_at ?n_law_steps ?l_law_steps ?c_law_steps ?k_law_steps)
      (BB.def_at ?n_law_closure ?l_law_closure ?c_law_closure ?k_law_closure)
      (BB.def_at ?n_law_is_integer ?l_law_is_integer ?c_law_is_integer ?k_law_is_integer)
      (BB.def_at ?n_law_chain ?l_law_chain ?c_law_chain ?k_law_chain)
      (BB.def_at ?n_law_is_ring ?l_law_is_ring ?c_law_is_ring ?k_law_is_ring)
      (BB.def_at ?n_law_is_fraction ?l_law_is_fraction ?c_law_is_fraction ?k_law_is_fraction)
      (BB.def_at ?n_law_are_fractions ?l_law_are_fractions ?c_law_are_fractions ?k_law_are_fractions)
      (BB.def_at ?n_law_add ?l_law_add ?c_law_add ?k_law_add)
      (BB.def_at ?n_law_mul ?l_law_mul ?c_law_mul ?k_law_mul)
      (BB.def_at ?n_law_over ?l_law_over ?c_law_over ?k_law_over)
      (BB.def_at ?n_law_accepts ?l_law_accepts ?c_law_accepts ?k_law_accepts)
      (BB.def_at ?n_law_is_taste ?l_law_is_taste ?c_law_is_taste ?k_law_is_taste)
      (BB.def_at ?n_law_kind ?l_law_kind ?c_law_kind ?k_law_kind)
      (BB.def_at ?n_law_same ?l_law_same ?c_law_same ?k_law_same)
      (BB.def_at ?n_law_unchanged ?l_law_unchanged ?c_law_unchanged ?k_law_unchanged)
      (BB.def_at ?n_law_falls_along ?l_law_falls_along ?c_law_falls_along ?k_law_falls_along)
      (BB.def_at ?n_law_weights ?l_law_weights ?c_law_weights ?k_law_weights)
      (BB.def_at ?n_law_numbers ?l_law_numbers ?c_law_numbers ?k_law_numbers)
      (BB.def_at ?n_law_worth ?l_law_worth ?c_law_worth ?k_law_worth)
      (BB.def_at ?n_law_without ?l_law_without ?c_law_without ?k_law_without)
      (BB.def_at ?n_law_tastes ?l_law_tastes ?c_law_tastes ?k_law_tastes)
      (BB.def_at ?n_law ?l_law ?c_law ?k_law)
    (case b_len => k_is)
    (case b_range => k_is)
    (case b_int => k_is)
    (case b_list => k_is)
    (case b_isinstance => k_is)
    (case b_abs => k_is)
    (case b_max => k_is)
    (case b_bool => k_is)
    (case b_tuple => k_is)
    (case b_str => k_is)
    (case b_gcd => k_is)
    (case u_n => k_is)
    (case u_pg => k_is)
    (case u_hd => k_is)
    (case u_po => k_is)
    (case u_sa => k_is)
    (case u_a1 => unfold L2.NoAttr; k_is)
    (case u_a2 => unfold L2.NoAttr; k_is)
    (case u_a3 => unfold L2.NoAttr; k_is)
    (case u_mk => k_is)
    (case u_in => k_is)
    (case u_fn => k_is)
    (case u_kc => k_is)
    (case u_l => k_is)
    (case u_c => k_is)
    (case u_k => k_is)
    (case z_z => k_is)
    (case z_o => k_is)
    (case z_lz => k_is)
    (case z_sz => decide)
    (case z_vz => exact .cons ⟨_, rfl⟩ (.cons ⟨_, rfl⟩ .nil))
    (case z_lo => k_is)
    (case z_so => decide)
    (case z_vo => exact .cons ⟨_, rfl⟩ (.cons ⟨_, rfl⟩ .nil))
    (case n_less => k_is)
    (case l_less => k_is)
    (case c_less => k_is)
    (case k_less => k_is)
    (case n_at_most => k_is)
    (case l_at_most => k_is)
    (case c_at_most => k_is)
    (case k_at_most => k_is)
    (case n_ratio => k_is)
    (case l_ratio => k_is)
    (case c_ratio => k_is)
    (case k_ratio => k_is)
    (case n_add => k_is)
    (case l_add => k_is)
    (case c_add => k_is)
    (case k_add => k_is)
    (case n_sub => k_is)
    (case l_sub => k_is)
    (case c_sub => k_is)
    (case k_sub => k_is)
    (case n_mul => k_is)
    (case l_mul => k_is)
    (case c_mul => k_is)
    (case k_mul => k_is)
    (case n_dot => k_is)
    (case l_dot => k_is)
    (case c_dot => k_is)
    (case k_dot => k_is)
    (case n_cost => k_is)
    (case l_cost => k_is)
    (case c_cost => k_is)
    (case k_cost => k_is)
    (case n_spent => k_is)
    (case l_spent => k_is)
    (case c_spent => k_is)
    (case k_spent => k_is)
    (case n_plane => k_is)
    (case l_plane => k_is)
    (case c_plane => k_is)
    (case k_plane => k_is)
    (case n_links_hold => k_is)
    (case l_links_hold => k_is)
    (case c_links_hold => k_is)
    (case k_links_hold => k_is)
    (case n_judge_taste => k_is)
    (case l_judge_taste => k_is)
    (case c_judge_taste => k_is)
    (case k_judge_taste => k_is)
    (case n_step => k_is)
    (case l_step => k_is)
    (case c_step => k_is)
    (case k_step => k_is)
    (case n_judge_chain => k_is)
    (case l_judge_chain => k_is)
    (case c_judge_chain => k_is)
    (case k_judge_chain => k_is)
    (case n_step_table => k_is)
    (case l_step_table => k_is)
    (case c_step_table => k_is)
    (case k_step_table => k_is)
    (case n_find_in => k_is)
    (case l_find_in => k_is)
    (case c_find_in => k_is)
    (case k_find_in => k_is)
    (case n_leads => k_is)
    (case l_leads => k_is)
    (case c_leads => k_is)
    (case k_leads => k_is)
    (case n_find_chain => k_is)
    (case l_find_chain => k_is)
    (case c_find_chain => k_is)
    (case k_find_chain => k_is)
    (case n_next_class => k_is)
    (case l_next_class => k_is)
    (case c_next_class => k_is)
    (case k_next_class => k_is)
    (case n_class_number => k_is)
    (case l_class_number => k_is)
    (case c_class_number => k_is)
    (case k_class_number => k_is)
    (case n_div => k_is)
    (case l_div => k_is)
    (case c_div => k_is)
    (case k_div => k_is)
    (case n_member_weight => k_is)
    (case l_member_weight => k_is)
    (case c_member_weight => k_is)
    (case k_member_weight => k_is)
    (case n_make_taste => k_is)
    (case l_make_taste => k_is)
    (case c_make_taste => k_is)
    (case k_make_taste => k_is)
    (case n_check => k_is)
    (case l_check => k_is)
    (case c_check => k_is)
    (case k_check => k_is)
    (case n_law_row => k_is)
    (case l_law_row => k_is)
    (case c_law_row => k_is)
    (case k_law_row => k_is)
    (case n_law_long => k_is)
    (case l_law_long => k_is)
    (case c_law_long => k_is)
    (case k_law_long => k_is)
    (case n_law_gcd => k_is)
    (case l_law_gcd => k_is)
    (case c_law_gcd => k_is)
    (case k_law_gcd => k_is)
    (case n_law_lowest => k_is)
    (case l_law_lowest => k_is)
    (case c_law_lowest => k_is)
    (case k_law_lowest => k_is)
    (case n_law_purchase => k_is)
    (case l_law_purchase => k_is)
    (case c_law_purchase => k_is)
    (case k_law_purchase => k_is)
    (case n_law_data => k_is)
    (case l_law_data => k_is)
    (case c_law_data => k_is)
    (case k_law_data => k_is)
    (case n_law_made => k_is)
    (case l_law_made => k_is)
    (case c_law_made => k_is)
    (case k_law_made => k_is)
    (case n_law_dot => k_is)
    (case l_law_dot => k_is)
    (case c_law_dot => k_is)
    (case k_law_dot => k_is)
    (case n_law_gap => k_is)
    (case l_law_gap => k_is)
    (case c_law_gap => k_is)
    (case k_law_gap => k_is)
    (case n_law_step => k_is)
    (case l_law_step => k_is)
    (case c_law_step => k_is)
    (case k_law_step => k_is)
    (case n_law_steps => k_is)
    (case l_law_steps => k_is)
    (case c_law_steps => k_is)
    (case k_law_steps => k_is)
    (case n_law_closure => k_is)
    (case l_law_closure => k_is)
    (case c_law_closure => k_is)
    (case k_law_closure => k_is)
    (case n_law_is_integer => k_is)
    (case l_law_is_integer => k_is)
    (case c_law_is_integer => k_is)
    (case k_law_is_integer => k_is)
    (case n_law_chain => k_is)
    (case l_law_chain => k_is)
    (case c_law_chain => k_is)
    (case k_law_chain => k_is)
    (case n_law_is_ring => k_is)
    (case l_law_is_ring => k_is)
    (case c_law_is_ring => k_is)
    (case k_law_is_ring => k_is)
    (case n_law_is_fraction => k_is)
    (case l_law_is_fraction => k_is)
    (case c_law_is_fraction => k_is)
    (case k_law_is_fraction => k_is)
    (case n_law_are_fractions => k_is)
    (case l_law_are_fractions => k_is)
    (case c_law_are_fractions => k_is)
    (case k_law_are_fractions => k_is)
    (case n_law_add => k_is)
    (case l_law_add => k_is)
    (case c_law_add => k_is)
    (case k_law_add => k_is)
    (case n_law_mul => k_is)
    (case l_law_mul => k_is)
    (case c_law_mul => k_is)
    (case k_law_mul => k_is)
    (case n_law_over => k_is)
    (case l_law_over => k_is)
    (case c_law_over => k_is)
    (case k_law_over => k_is)
    (case n_law_accepts => k_is)
    (case l_law_accepts => k_is)
    (case c_law_accepts => k_is)
    (case k_law_accepts => k_is)
    (case n_law_is_taste => k_is)
    (case l_law_is_taste => k_is)
    (case c_law_is_taste => k_is)
    (case k_law_is_taste => k_is)
    (case n_law_kind => k_is)
    (case l_law_kind => k_is)
    (case c_law_kind => k_is)
    (case k_law_kind => k_is)
    (case n_law_same => k_is)
    (case l_law_same => k_is)
    (case c_law_same => k_is)
    (case k_law_same => k_is)
    (case n_law_unchanged => k_is)
    (case l_law_unchanged => k_is)
    (case c_law_unchanged => k_is)
    (case k_law_unchanged => k_is)
    (case n_law_falls_along => k_is)
    (case l_law_falls_along => k_is)
    (case c_law_falls_along => k_is)
    (case k_law_falls_along => k_is)
    (case n_law_weights => k_is)
    (case l_law_weights => k_is)
    (case c_law_weights => k_is)
    (case k_law_weights => k_is)
    (case n_law_numbers => k_is)
    (case l_law_numbers => k_is)
    (case c_law_numbers => k_is)
    (case k_law_numbers => k_is)
    (case n_law_worth => k_is)
    (case l_law_worth => k_is)
    (case c_law_worth => k_is)
    (case k_law_worth => k_is)
    (case n_law_without => k_is)
    (case l_law_without => k_is)
    (case c_law_without => k_is)
    (case k_law_without => k_is)
    (case n_law_tastes => k_is)
    (case l_law_tastes => k_is)
    (case c_law_tastes => k_is)
    (case k_law_tastes => k_is)
    (case n_law => k_is)
    (case l_law => k_is)
    (case c_law => k_is)
    (case k_law => k_is)

